import PyProof.Rows.All
import PyProof.Raises
import PyProof.Calls
import PyProof.RulesRaise
import PyProof.Rules2
import PyProof.Ends
import PyProof.Rows.Frame
import PyProof.AttrMissSeq
import PyProof.Rules3
import PyProof.SeqI
import PyProof.CallRoads
import PyProof.Cells
import PyProof.CompMap
import PyProof.CompUse
import PyProof.ConsumeWalk
import PyProof.WalksS
import PyProof.CollectWalk
import PyProof.StrLoop
import PyProof.StrWalks
import PyProof.CompFree
import PyProof.PureInt
import PyProof.Conv_int_bool
import PyProof.DefCall
import PyProof.Dict
import PyProof.MeetsSeq
import PyProof.ListOps
import PyProof.DictKinds
import PyProof.DictList
import PyProof.DictRoads
import PyProof.DictCalls
import PyProof.DictStraight
import PyProof.DictDisplay
import PyProof.DictTable
import PyProof.NeData
import PyProof.ExcArgsOwn
import PyProof.ExcBaseAll.ValueError
import PyProof.RaisesMany
import PyProof.StationsW
import PyProof.StrLawsIn
import PyProof.SliceStr2
import PyProof.StrBlock
import PyProof.RangeIter
import PyProof.WalksMore
import PyProof.RangeFor
import PyProof.IsInstance
import PyProof.IsiHeapPairs
import PyProof.IsiNone
import PyProof.IsiPairs
import PyProof.IsiTupleOf
import PyProof.LetGo
import PyProof.ListCopy
import PyProof.ListIndexNeg
import PyProof.ListRange
import PyProof.RulesAs
import PyProof.P3In
import PyProof.Rows.Tup
import PyProof.Rows.TupAssign
import PyProof.Rows.TupSub
import PyProof.Rows.StrInSeq
import PyProof.Rows.DictRows
import PyProof.StrLawsIdx
import PyProof.SetKind
import PyProof.ZipIter
import PyProof.TupleCall
import PyProof.Rows.Own
import PyProof.Rows.Exc
import PyProof.Rows.Chain
import PyProof.Rows.RuleB_pow
import PyProof.Rows.RuleB_floordiv
import PyProof.Rows.RuleB_mod
import PyProof.Rows.StrTemp
import PyProof.Rows.ListMul
import PyProof.SeqI3
import PyProof.Rows.TupMore
import PyProof.SliceMore
import PyProof.Rows.StrRules
import PyProof.Rows.Walk
import PyProof.SumAny
import PyProof.Rows.MaxTwoN
import PyProof.Rows.TupAdd
import PyProof.TupleOfSeq
import PyProof.Rows.SortWalk
import PyProof.Rows.Range3
import PyProof.Rows.SortStr
import PyProof.SetRoads
import PyProof.Rows.SetFrom
import Open.Line
import OpenK.KWalk
import Open.Boot
import Open.Tree
import OpenK.KWith
import KE.KDictOf
import Wide.All
import PySem.Challenge.RW_uf010038_09
open List renaming length_map->aa,getElem?_eq_getElem->ae,mem_singleton->ah,mem_map->ai,getElem?_eq_some_iff->aj,map_append->ak,mem_cons->am,getElem?_map->aq,length_append->ar,mem_append->au,getD_eq_getElem?_getD->aw,length_cons->az,all_eq_true->aB,not_mem_nil->aC,mem_of_getElem?->aD,append_assoc->aF,mem_cons_of_mem->aG,isEmpty_iff->aH,append_nil->aL,length_range->aN,lookup_cons->aR,getElem?_append_right->aS,nodup_append->aV,map_map->aZ,mem_range->bc,mem_cons_self->be,length_eq_zero_iff->bf,foldl_cons->bk,range_succ->bn,length_set->bt,getElem_mem->bv,take_add_one->bD,take_length->bF,nodup_cons->bJ,getElem?_eq_none->bK,getElem?_append_left->bM,drop_eq_getElem_cons->bN,length_take->bR,contains_cons->bX,length_replicate->bY,mem_iff_getElem?->ca,mem_of_mem_take->cc,length_drop->cg,mem_flatten->ch,map_cons->cn,getElem_of_mem->cq,mem_filter->cu,pairwise_iff_getElem->cw,find?_cons->cx,length_nil->cy,mem_of_find?_eq_some->cz,flatten_replicate_singleton->cK,append_inj'->cL,length_take_le'->cR,map_congr_left->cX,lookup->cZ,range'->da,mem_filterMap->dc,findIdx?_cons->dh,filter_append->dk,length_eraseIdx_of_lt->dm,elem_iff->dq,all_cons->dt,getElem?_set->du,mem_or_eq_of_mem_set->dx,drop_length->dy,filterMap_cons_some->dD,map_fst_zip->dE,any_eq_true->dH,all_map->dI,nodup_range->dJ,getElem?_replicate->dN,mem_singleton_self->dO,forIn_cons->dR,getElem?_set_self->dU,take_of_length_le->dY,drop_of_length_le->dZ,pairwise_lt_range->ef,length_eq_one_iff->ei,eq_nil_or_concat->eC,concat_eq_append->eD,getElem?_set_ne->eE,pairwise_append->eG,foldl->eH,mem_of_mem_drop->eI,mem_append_left->eJ,map_take->eK,getElem?_range->eL,toList_toArray->eN,replicate_succ->eO,length_flatten->eP,flatten_append->eQ,length_take_le->eR,map_set->eZ
open Bool renaming false_ne_true->ac,and_eq_true_iff->aM,and_eq_true->aQ,true_xor->bU,false_and->bZ,false_xor->cb,or_eq_true->ct,and_false->cE,eq_iff_iff->cS,true_and->dp
open PySem.Heap renaming get?_push_of_some->ag,get?_push_size->an,lt_size->aE,get?_update_self->bo,size_push->bw,get?_some_iff->bV,get?_update_other->cG
open Nat renaming le_trans->al,zero_le->ay,le_refl->aI,le_add_left->aP,min_le_left->aU,lt_of_lt_of_le->aY,ne_of_lt->bb,le_of_not_lt->bg,lt_succ_self->bp,lt_succ_of_lt->bq,le_of_lt_succ->br,lt_of_le_of_lt->bx,min_eq_left->bB,lt_irrefl->bE,succ_le_succ->bG,min_le_right->bP,lt_trans->bQ,mul_le_mul_left->bS,not_lt_zero->bW,not_lt->cf,pow_le_pow_right->cj,not_le->cm,add_le_add_left->cr,le_antisymm->cv,le_of_lt->cB,sub_self->cD,add_assoc->cH,min_eq_right->cJ,add_min_add_right->cN,ne_of_gt->cQ,add_le_add_right->cT,max_le->cU,strongRecOn->cV,min_self->cW,add_le_add->cY,le_succ->db,eq_or_lt_of_le->dj,zero_add->dz,le_add_right->dA,succ_ne_zero->dB,le_max_right->dF,add_comm->dG,lt_succ_iff_lt_or_eq->dK,pow_succ->dL,mul_comm->dM,add_sub_cancel_left->dP,sub_eq_zero_iff_le->ee,le_of_succ_le_succ->eh,div_div_eq_div_mul->ew
open Array renaming length_toList->ao,getElem?_toList->av,getElem?_eq_getElem->aO,getElem?_eq_some_iff->aX,toList_push->cF,getElem?_mapIdx->cM,any_toList->dC,getElem?_eq_none->dW,toArray_toList->eF
open Option renaming map_eq_some_iff->aA,isNone_iff_eq_none->bl,isSome_iff_exists->bA,some_ne_none->co,elim->dX
open Int renaming natCast_nonneg->aJ,eq_ofNat_of_zero_le->aT,toNat_of_nonneg->bu,natCast_mul->bC,zero_add->bI,toNat_natCast->bL,le_sub_one_of_lt->bO,lt_of_le_sub_one->ci,ofNat_lt->cC,max_eq_right->cI,ediv_nonneg->cP,add_lt_of_lt_sub_left->dw,min_eq_left->dQ,toNat_lt->eU,ofNat_le->eV,ne_of_gt->eW,toNat_le->eX,le_refl->fc
open PySem.Calls renaming loadGlobal_builtin->aK,loadGlobal_global->aW,callWith_builtin->bh,docDef->bH,call_len_list->eM
open Classical renaming byContradiction->ba
open PySem.Obj renaming mapSeq->bj,data_mapFields->cA,putSet->dv,isFreed_of_fields->eB
open PyProof.Rows renaming slot_tuple_getitem->cO,slicePart_none->dg,bindName_->en,tail_any->eA
set_option Elab.async false
set_option linter.all false
set_option bootstrap.genMatcherCode false
section
set_option maxRecDepth 100000
set_option maxHeartbeats 8000000
open PySem PySem.W PyProof.Rows
namespace Internal
noncomputable def ent(P:Params)(k:String)(t:Nat)(v:Value):DictEntry:=⟨PyData.keyHash P (Str.ofString k),.str (Str.ofString k) t,v⟩
noncomputable def fe:Value:=.str (Str.ofString "formlines.errors") 187
noncomputable def nsO(P:Params)(a t L:Nat):Obj:={cls:=.type "dict",data:=.dict #[ent P "__module__" (t+7) fe,ent P "__firstlineno__" (t+11) (.int L (t+10)),ent P "__static_attributes__" (t+12) (.ref (a+7)),ent P "__doc__" (t+13) .none] 2}
noncomputable def clO(a t:Nat)(x:String):Obj:={cls:=.type "type",data:=.cls {name:=Str.ofString x,bases:=[.ref 24],mro:=[.ref (a+9),.ref 24,.type "ValueError",.type "Exception",.type "BaseException",.type "object"],ns:=a+8,qualname:=Str.ofString x},slots:=#[some (.ref a),none,some (.str (Str.ofString x) t),some (.str (Str.ofString x) (t+8)),some (.builtin "ValueError.__new__"),some (.bool true)]}
noncomputable def coO(a t L:Nat)(x:String):Obj:={cls:=.type "code",data:=.fields #[.str (Str.ofString x) t,.str (Str.ofString x) (t+1),.str (Str.ofString "/claim/cut.py") (t+2),.int L 0,.int 0 0,.int 0 0,.int 0 0,.int 0 0,.ref a,.bool false,.int 181 0,.ref (a+1),.none,.none,.none,.none,.int (t+3) 0,.int L 0,.str (Str.ofString "/claim/cut.py") (t+4)]}
noncomputable def tu0:Obj:={cls:=.type "tuple",data:=.seq #[]}
noncomputable def fi0:Obj:={cls:=.none,data:=.fields #[]}
noncomputable def bfO(x:String)(v:Value):Obj:={cls:=.type "builtin_function_or_method",data:=.fields #[.builtin x,v]}
noncomputable def frO(a b:Nat)(v:Value):Obj:={cls:=.type "frame",slots:=#[some (.ref a),some (.ref 3),some (.ref b),none,some v,none,some (.ref 0)]}
noncomputable def ldO(P:Params)(a t L:Nat)(x:String):Obj:={cls:=.type "dict",data:=.dict #[ent P "__module__" t fe,ent P "__qualname__" (t+2) (.str (Str.ofString x) (t+1)),ent P "__firstlineno__" (t+4) (.int L (t+3)),ent P "__static_attributes__" (t+5) (.ref a)] 4}
noncomputable def suO(a:Nat):Obj:={cls:=.type "super",data:=.fields #[.ref a,.ref a,.ref a]}
noncomputable def E1(P:Params)(a t L:Nat)(x:String):List Obj:=[{cls:=.type "tuple",data:=.seq #[.ref 24]},bfO "type.__prepare__" (.type "type"),ldO P (a+7) (t+7) L x,tu0,fi0,coO (a+3) (t+2) L x,frO (a+5) (a+2) fe,tu0,nsO P a t L,clO a t x,suO (a+9),bfO "object.__init_subclass__" (.ref (a+9))]
noncomputable def aM9(P:Params):Obj:={cls:=.type "dict",data:=.dict #[ent P "__module__" 196 fe,ent P "__firstlineno__" 200 (.int 2 199),ent P "__static_attributes__" 201 (.ref 22),ent P "__weakref__" 203 (.ref 25),ent P "__doc__" 204 .none] 3}
noncomputable def aq7:Obj:={cls:=.type "type",data:=.cls {name:=Str.ofString "FormError",bases:=[.type "ValueError"],mro:=[.ref 24,.type "ValueError",.type "Exception",.type "BaseException",.type "object"],ns:=23,qualname:=Str.ofString "FormError",subclasses:=[.ref 37,.ref 49,.ref 61,.ref 73,.ref 85,.ref 97,.ref 109,.ref 121,.ref 133]},slots:=#[some (.ref 15),none,some (.str (Str.ofString "FormError") 189),some (.str (Str.ofString "FormError") 197),some (.builtin "ValueError.__new__"),some (.bool true)]}
noncomputable def myK(P:Params):Frag:=[(3,{cls:=.type "dict",data:=.dict #[ent P "__name__" 165 (.str (Str.ofString "law_uf010038_09") 654),ent P "__doc__" 166 .none,ent P "__package__" 167 .none,ent P "__loader__" 168 (.builtin "__main__.__loader__#opaque"),ent P "__spec__" 169 .none,ent P "__annotations__" 170 (.ref 6),ent P "__builtins__" 171 (.ref 4),ent P "__file__" 173 (.str (Str.ofString "/claim/cut.py") 172),ent P "__cached__" 174 .none,ent P "FormError" 206 (.ref 24),ent P "NoTable" 222 (.ref 37),ent P "NoForm" 238 (.ref 49),ent P "NoRule" 254 (.ref 61),ent P "Ring" 270 (.ref 73),ent P "NoPaper" 286 (.ref 85),ent P "NoYear" 302 (.ref 97),ent P "NoLine" 318 (.ref 109),ent P "NoChoice" 334 (.ref 121),ent P "TooMany" 350 (.ref 133),ent P "GREATEST" 354 (.int 1000000000 353),ent P "MOST_ROWS" 356 (.int 20 355),ent P "is_from" 365 (.ref 142),ent P "is_number" 372 (.ref 149),ent P "is_row" 379 (.ref 156),ent P "is_table" 385 (.ref 161),ent P "at_number" 397 (.ref 168),ent P "DEEPEST" 401 (.int 8 400),ent P "LONGEST" 403 (.int 8 402),ent P "LETTERS" 405 (.str (Str.ofString "abcdefghijklmnopqrstuvwxyz") 404),ent P "SIZES" 442 (.ref 169),ent P "is_word" 448 (.ref 174),ent P "within" 456 (.ref 181),ent P "is_fitting" 467 (.ref 188),ent P "is_one" 479 (.ref 195),ent P "is_rule" 489 (.ref 202),ent P "gathered" 499 (.ref 209),ent P "named" 507 (.ref 216),ent P "MOST_LINES" 511 (.int 40 510),ent P "MOST_TABLES" 513 (.int 5 512),ent P "MOST_CHOICES" 515 (.int 8 514),ent P "steps_to" 528 (.ref 223),ent P "ring_from" 534 (.ref 228),ent P "ring_of" 540 (.ref 233),ent P "form_of" 546 (.ref 238),ent P "order_of" 552 (.ref 243),ent P "papers_of" 563 (.ref 250),ent P "need_taken" 572 (.ref 257),ent P "of_two" 581 (.ref 264),ent P "leaf" 594 (.ref 271),ent P "worth" 603 (.ref 278),ent P "reckoned" 609 (.ref 283),ent P "history" 615 (.ref 288),ent P "MOST_IN_ALL" 619 (.int 8 618),ent P "truths_of" 630 (.ref 295),ent P "rows_of" 636 (.ref 300),ent P "sums" 642 (.ref 305),ent P "least" 653 (.ref 312),ent P "_law_cell_at" 663 (.ref 319),ent P "_law_mixed" 671 (.ref 326),ent P "_law_next" 679 (.ref 333),ent P "_law_whole" 686 (.ref 340),ent P "_law_number" 694 (.ref 347),ent P "_law_table" 706 (.ref 354),ent P "_law_words" 718 (.ref 361),ent P "_law_plain" 729 (.ref 368),ent P "_law_rule" 743 (.ref 375),ent P "_law_sizes" 754 (.ref 382),ent P "_law_order" 764 (.ref 389),ent P "_law_form" 770 (.ref 394),ent P "_law_named" 776 (.ref 399),ent P "_law_at" 786 (.ref 406),ent P "_law_value" 798 (.ref 413),ent P "_law_papers" 804 (.ref 418),ent P "_law_taken" 810 (.ref 423),ent P "_law_alone" 818 (.ref 430),ent P "_law_reckoned" 832 (.ref 437),ent P "_law_row" 838 (.ref 442),ent P "_law_sum" 852 (.ref 449),ent P "_law_choices" 858 (.ref 454),ent P "_law_all" 872 (.ref 461),ent P "_law_tried" 881 (.ref 468),ent P "_law_any" 890 (.ref 475),ent P "_law_refused" 899 (.ref 482),ent P "_law_kinds" 905 (.ref 487),ent P "law" 911 (.ref 492)] 85}),(169,{cls:=.type "dict",data:=.dict #[ent P "number" 406 (.int 2 407),ent P "paper" 408 (.int 2 409),ent P "line" 410 (.int 2 411),ent P "earlier" 412 (.int 2 413),ent P "add" 414 (.int 3 415),ent P "take" 416 (.int 3 417),ent P "least" 418 (.int 3 419),ent P "most" 420 (.int 3 421),ent P "part" 422 (.int 3 423),ent P "table" 424 (.int 3 425),ent P "where" 426 (.int 4 427),ent P "choose" 428 (.int 4 429)] 12}),(24,aq7),(23,aM9 P),(37,clO 28 207 "NoTable"),(36,nsO P 28 207 4),(49,clO 40 223 "NoForm"),(48,nsO P 40 223 6),(61,clO 52 239 "NoRule"),(60,nsO P 52 239 8),(73,clO 64 255 "Ring"),(72,nsO P 64 255 10),(85,clO 76 271 "NoPaper"),(84,nsO P 76 271 12),(97,clO 88 287 "NoYear"),(96,nsO P 88 287 14),(109,clO 100 303 "NoLine"),(108,nsO P 100 303 16),(121,clO 112 319 "NoChoice"),(120,nsO P 112 319 18),(133,clO 124 335 "TooMany"),(132,nsO P 124 335 20)]
noncomputable def bi7(no:List Nat)(l:List Stmt):List Stmt:=(l.zipIdx.filter λx=>!no.contains x.2).map (·.1)
noncomputable def viw:Program:={Challenge.pw_uf010038_09 with main:={Challenge.pw_uf010038_09.main with body:=bi7 [0,11,19,31,40,48,54] Challenge.pw_uf010038_09.main.body}}
theorem ab6:OpenLaw.wellSaid PySem.Challenge.rw_uf010038_09=true:=by kernel_rfl
noncomputable def xt4(s:Shared):Bool:=xlAt viw [] s&&recOk (RowW.records (OpenRow.toRowW (OpenLaw.row PySem.Challenge.rw_uf010038_09))) s
noncomputable def mn:Value:=.str (Str.ofString "__main__") 164
noncomputable def ak7:List Obj->Nat->BT->BT
 | [],_,t=>t
 | o::l,n,t=>ak7 l (n+1) (t.ins n o)
noncomputable def st0(P:Params)(os:OsState):SharedT:=⟨ak7 [boot_o_0 P,boot_o_1 P,boot_o_2 P,boot_o_3 P,boot_o_4 P,boot_o_5 P,boot_o_6 P,boot_o_7 P,boot_o_8 P,boot_o_9 P,boot_o_10 P,tu0,fi0,coO 11 182 1 "<module>",frO 13 3 mn] 0 .nil,15,{},#[],boot_drawn,187,os⟩
noncomputable def stM(P:Params)(os:OsState):SharedT:=⟨ak7 ([boot_o_0 P,boot_o_1 P,boot_o_2 P,{cls:=.type "dict",data:=.dict #[ent P "__name__" 165 (.str (Str.ofString "formlines.errors") 187),ent P "__doc__" 166 .none,ent P "__package__" 167 .none,ent P "__loader__" 168 (.builtin "__main__.__loader__#opaque"),ent P "__spec__" 169 .none,ent P "__annotations__" 170 (.ref 6),ent P "__builtins__" 171 (.ref 4),ent P "__file__" 173 (.str (Str.ofString "/claim/cut.py") 172),ent P "__cached__" 174 .none,ent P "FormError" 206 (.ref 24),ent P "NoTable" 222 (.ref 37),ent P "NoForm" 238 (.ref 49),ent P "NoRule" 254 (.ref 61),ent P "Ring" 270 (.ref 73),ent P "NoPaper" 286 (.ref 85),ent P "NoYear" 302 (.ref 97),ent P "NoLine" 318 (.ref 109),ent P "NoChoice" 334 (.ref 121),ent P "TooMany" 350 (.ref 133)] 19},boot_o_4 P,boot_o_5 P,boot_o_6 P,boot_o_7 P,boot_o_8 P,boot_o_9 P,boot_o_10 P,tu0,{cls:=.none,data:=.fields #[.int 2 0,.int 0 0,.ref 20,.int 4 0,.int 0 0,.ref 33,.int 6 0,.int 0 0,.ref 45,.int 8 0,.int 0 0,.ref 57,.int 10 0,.int 0 0,.ref 69,.int 12 0,.int 0 0,.ref 81,.int 14 0,.int 0 0,.ref 93,.int 16 0,.int 0 0,.ref 105,.int 18 0,.int 0 0,.ref 117,.int 20 0,.int 0 0,.ref 129]},coO 11 182 1 "<module>",frO 13 3 mn,{cls:=.type "tuple",data:=.seq #[.type "ValueError"]},bfO "type.__prepare__" (.type "type"),ldO P 22 196 2 "FormError",tu0,fi0,coO 18 191 2 "FormError",frO 20 17 fe,tu0,aM9 P,aq7,{cls:=.type "getset_descriptor",data:=.fields #[.str (Str.ofString "__weakref__") 202,.ref 24,.builtin "ExceptionGroup.__weakref__",.none]},suO 24,bfO "object.__init_subclass__" (.ref 24)]++E1 P 28 207 4 "NoTable" ++ E1 P 40 223 6 "NoForm" ++ E1 P 52 239 8 "NoRule" ++ E1 P 64 255 10 "Ring" ++ E1 P 76 271 12 "NoPaper" ++ E1 P 88 287 14 "NoYear" ++ E1 P 100 303 16 "NoLine" ++ E1 P 112 319 18 "NoChoice" ++ E1 P 124 335 20 "TooMany") 0 .nil,136,{},#[],boot_drawn,351,os⟩
noncomputable def X6:Env:={scope:=Challenge.pw_uf010038_09.main.scope,locals:=mainNs,globals:=mainNs,cells:=[],code:=.ref 13,frame:=some 14}
noncomputable def bdT:List Stmt:=behindTheImports Challenge.pw_uf010038_09
noncomputable def cdT:Code:=.body bdT X6
noncomputable def p00:Pos:=⟨0,0,0,0⟩
noncomputable def pM:Pos:=⟨20,0,21,8⟩
theorem aQ2:opening Challenge.pw_uf010038_09=plainProg Challenge.pw_uf010038_09.main.scope.names:=by kernel_rfl
theorem bj6(s:Shared):fenceModules? Challenge.pw_uf010038_09 s=some s:=by kernel_rfl
theorem bV6(w:World)(os:OsState):topGo treeTable Challenge.pw_uf010038_09 w 11 (some (.ref 6)) 12 ⟨boot_heap w.params,#[],boot_drawn,boot_toks,os⟩ (topStub Challenge.pw_uf010038_09)=some ((st0 w.params os).abs,⟨denote treeTable cdT,cdT,p00,[topFrame p00]⟩):=by kernel_rfl
theorem bu9(w:World)(os:OsState):segRun treeTable Challenge.pw_uf010038_09 w 11 (some (.ref 6)) 1 1 (st0 w.params os).abs (blockOf bdT X6 cdT p00 [topFrame p00])=some (.next,(st0 w.params os).abs,cdT,p00):=by kernel_rfl
theorem cg2(w:World):((boot_heap w.params).isNs mainGlobals&&(#[]:Array GenState).size==0,(boot_heap w.params).objs.size,(boot_heap w.params).nsMap mainGlobals "__annotations__")=(true,11,some (.ref 6)):=by kernel_rfl
theorem bl7{w:World}{s:Shared}{c:Code}{pos:Pos}:topRun treeTable Challenge.pw_uf010038_09 w 11 (some (.ref 6)) 2 s ⟨doneF .next,c,pos,[topFrame p00]⟩=some s:=by
 obtain⟨h,g,d,k,os⟩:=s;rfl
theorem bn4(w:World)(os:OsState):segRunT treeTable Challenge.pw_uf010038_09 w 11 (some (.ref 6)) 1 2163 (st0 w.params os) (piecesOf (bdT.take 11) X6 cdT p00 [topFrame p00])=some (.next,stM w.params os,cdT,pM):=by kernel_rfl
noncomputable def lks(P:Params)(s:Shared):=((staticsOk (importedModules Challenge.pw_uf010038_09.main.body) (boot_heap P) s.heap&&namesBound Challenge.pw_uf010038_09 s.heap&&gensDone s&&laidKept (boot_heap P) s.heap),openSeen viw [Str.ofString "SIZES"] (importedModules Challenge.pw_uf010038_09.main.body) xt4 true s,Hook.obs (kHook myK [3,169,24,23,37,36,49,48,61,60,73,72,85,84,97,96,109,108,121,120,133,132] (λ_=>rfl)) s)
noncomputable def aj0(w:World)(os:OsState):=(segRunT treeTable Challenge.pw_uf010038_09 w 11 (some (.ref 6)) 1 2097 (stM w.params os) (piecesOf (bdT.drop 11) X6 cdT pM [topFrame p00])).map λx=>(x.1,x.2.2.1,lks w.params x.2.1.abs)
theorem by3(w:World)(os:OsState):aj0 (w.withFollow "special-get-raises" true) os=some (.next,cdT,true,openGood viw [Str.ofString "SIZES"],Hook.val (kHook myK [3,169,24,23,37,36,49,48,61,60,73,72,85,84,97,96,109,108,121,120,133,132] (λ_=>rfl)) (w.withFollow "special-get-raises" true)):=by kernel_rfl
theorem aR1(w:World)(os:OsState):aj0 (w.withFollow "special-get-raises" false) os=some (.next,cdT,true,openGood viw [Str.ofString "SIZES"],Hook.val (kHook myK [3,169,24,23,37,36,49,48,61,60,73,72,85,84,97,96,109,108,121,120,133,132] (λ_=>rfl)) (w.withFollow "special-get-raises" false)):=by kernel_rfl
theorem bS7(w:World)(os:OsState):aj0 w os=some (.next,cdT,true,openGood viw [Str.ofString "SIZES"],Hook.val (kHook myK [3,169,24,23,37,36,49,48,61,60,73,72,85,84,97,96,109,108,121,120,133,132] (λ_=>rfl)) w):=by
 have e:=World.withFollow_self w "special-get-raises";cases hb:w.params.followText "special-get-raises" with
 | true=>rw[hb] at e;have:=by3 w os;rw[e] at this;exact this
 | false=>rw[hb] at e;have:=aR1 w os;rw[e] at this;exact this
theorem aY1{w:World}{s r:Shared}{n:Nat}{ann:Option Value}(z1:(s.heap.isNs mainGlobals&&s.gens.size==0)=true)(z2:s.heap.objs.size=n)(z3:s.heap.nsMap mainGlobals "__annotations__" = ann)(h:topRun treeTable Challenge.pw_uf010038_09 w n ann 5000 s (topStub Challenge.pw_uf010038_09)=some r)
  (l:(staticsOk (importedModules Challenge.pw_uf010038_09.main.body) s.heap r.heap&&namesBound Challenge.pw_uf010038_09 r.heap&&gensDone r&&laidKept s.heap r.heap)=true):topFrom treeTable Challenge.pw_uf010038_09 w 5000 s=some r:=by
 unfold topFrom;rw[z1,z2,z3,h];show(match staticsOk (importedModules Challenge.pw_uf010038_09.main.body) s.heap r.heap&&namesBound Challenge.pw_uf010038_09 r.heap&&gensDone r&&laidKept s.heap r.heap with | true=>_ | false=>_)=_
 rw[l]
theorem left:LeftO Challenge.pw_uf010038_09 viw [Str.ofString "SIZES"] xt4 (Hook.obs (kHook myK [3,169,24,23,37,36,49,48,61,60,73,72,85,84,97,96,109,108,121,120,133,132] (λ_=>rfl))) (Hook.val (kHook myK [3,169,24,23,37,36,49,48,61,60,73,72,85,84,97,96,109,108,121,120,133,132] (λ_=>rfl))) 5000:=λw=>by
 obtain⟨⟨h,gs,d,k,os⟩,e,e'⟩:=aA.mp (boot_open (N:=5000) aQ2 (by decide) bj6 w)
 obtain⟨rfl,rfl,rfl,rfl⟩:h=boot_heap w.params/\gs=#[]/\d=boot_drawn/\k=boot_toks:=by simpa using e'
 obtain⟨z1,z2,z3⟩:_/\_/\_:=by simpa only[Prod.mk.injEq] using cg2 w
 obtain⟨⟨f,s',c',q'⟩,h1,h2⟩:=aA.mp (bS7 w os);obtain⟨h2,h3⟩:=Prod.mk.inj h2;obtain⟨h4,h5⟩:=Prod.mk.inj h3;obtain⟨l1,h6⟩:=Prod.mk.inj h5;obtain⟨l2,l3⟩:=Prod.mk.inj h6;dsimp only at h2 h4
 subst h2 h4;have r:topRun treeTable Challenge.pw_uf010038_09 w 11 (some (.ref 6)) (12+(1+(2163+(2097+2)))) ⟨boot_heap w.params,#[],boot_drawn,boot_toks,os⟩ (topStub Challenge.pw_uf010038_09)=some s'.abs:=by
  refine go_top (bV6 w os) (piece_block (bu9 w os) ?_);have a:=piece_app (l:=bdT.drop 11) (rest:=[]) (segRun_of h1) (piece_nil bl7);rw[aL] at a;have b:=piece_app (l:=bdT.take 11) (rest:=bdT.drop 11) (segRun_of (bn4 w os)) a;rw[List.take_append_drop] at b;exact b
 have r:=topRun_mono (5000-(12+(1+(2163+(2097+2))))) _ _ _ _ r;unfold openEnds;rw[e];show(topFrom treeTable Challenge.pw_uf010038_09 w 5000 _).map _=_;rw[aY1 z1 z2 z3 r l1];exact congrArg some (Prod.ext l2 l3)
end Internal
end
set_option tactic.hygienic false
set_option genSizeOf false
open PySem
namespace Internal
theorem ai9{n:Int}{k:Nat}(h0:0<=n)(h:n<k):n.toNat<k:=(eU h0).mpr h
theorem bU9{a n:Nat}(h:a<=n):max (0:Int) (min (a:Int) n)=a:=by rw[dQ (eV.mpr h)];exact cI (aJ _)
theorem c5{p1 p2:Prop}{P:Prop}(h:p1/\p2)(k:p1->p2->P):P:=k h.1 h.2
theorem k6{p1 p2 p3:Prop}{P:Prop}(h:p1/\p2/\p3)(k:p1->p2->p3->P):P:=k h.1 h.2.1 h.2.2
theorem R6{p1 p2 p3 p4:Prop}{P:Prop}(h:p1/\p2/\p3/\p4)(k:p1->p2->p3->p4->P):P:=k h.1 h.2.1 h.2.2.1 h.2.2.2
theorem W0{p1 p2 p3 p4 p5 p6 p7:Prop}{P:Prop}(h:p1/\p2/\p3/\p4/\p5/\p6/\p7)(k:p1->p2->p3->p4->p5->p6->p7->P):P:=k h.1 h.2.1 h.2.2.1 h.2.2.2.1 h.2.2.2.2.1 h.2.2.2.2.2.1 h.2.2.2.2.2.2
theorem c6{α1:Sort _}{p1:α1->Prop}{P:Prop}(h:∃ a1,p1 a1)(k:∀ a1,p1 a1->P):P:=h.elim λa1 h=>k a1 h
theorem a9{α1:Sort _}{p1 p2:α1->Prop}{P:Prop}(h:∃ a1,p1 a1/\p2 a1)(k:∀ a1,p1 a1->p2 a1->P):P:=h.elim λa1 h=>k a1 h.1 h.2
theorem i8{α1:Sort _}{p1 p2 p3:α1->Prop}{P:Prop}(h:∃ a1,p1 a1/\p2 a1/\p3 a1)(k:∀ a1,p1 a1->p2 a1->p3 a1->P):P:=h.elim λa1 h=>k a1 h.1 h.2.1 h.2.2
theorem G9{α1:Sort _}{p1 p2 p3 p4:α1->Prop}{P:Prop}(h:∃ a1,p1 a1/\p2 a1/\p3 a1/\p4 a1)(k:∀ a1,p1 a1->p2 a1->p3 a1->p4 a1->P):P:=h.elim λa1 h=>k a1 h.1 h.2.1 h.2.2.1 h.2.2.2
theorem cg5{α1:Sort _}{p1 p2 p3 p4 p5 p6:α1->Prop}{P:Prop}(h:∃ a1,p1 a1/\p2 a1/\p3 a1/\p4 a1/\p5 a1/\p6 a1)(k:∀ a1,p1 a1->p2 a1->p3 a1->p4 a1->p5 a1->p6 a1->P):P:=h.elim λa1 h=>k a1 h.1 h.2.1 h.2.2.1 h.2.2.2.1 h.2.2.2.2.1 h.2.2.2.2.2
theorem p9{α1 α2:Sort _}{p1:α1->α2->Prop}{P:Prop}(h:∃ a1 a2,p1 a1 a2)(k:∀ a1 a2,p1 a1 a2->P):P:=h.elim λa1 h=>h.elim λa2 h=>k a1 a2 h
theorem j6{α1 α2:Sort _}{p1 p2:α1->α2->Prop}{P:Prop}(h:∃ a1 a2,p1 a1 a2/\p2 a1 a2)(k:∀ a1 a2,p1 a1 a2->p2 a1 a2->P):P:=h.elim λa1 h=>h.elim λa2 h=>k a1 a2 h.1 h.2
theorem g7{α1 α2:Sort _}{p1 p2 p3:α1->α2->Prop}{P:Prop}(h:∃ a1 a2,p1 a1 a2/\p2 a1 a2/\p3 a1 a2)(k:∀ a1 a2,p1 a1 a2->p2 a1 a2->p3 a1 a2->P):P:=h.elim λa1 h=>h.elim λa2 h=>k a1 a2 h.1 h.2.1 h.2.2
theorem bB7{α1 α2:Sort _}{p1 p2 p3 p4 p5 p6:α1->α2->Prop}{P:Prop}(h:∃ a1 a2,p1 a1 a2/\p2 a1 a2/\p3 a1 a2/\p4 a1 a2/\p5 a1 a2/\p6 a1 a2)(k:∀ a1 a2,p1 a1 a2->p2 a1 a2->p3 a1 a2->p4 a1 a2->p5 a1 a2->p6 a1 a2->P):P:=h.elim λa1 h=>h.elim λa2 h=>k a1 a2 h.1 h.2.1 h.2.2.1 h.2.2.2.1 h.2.2.2.2.1 h.2.2.2.2.2
theorem N2{α1 α2 α3:Sort _}{p1:α1->α2->α3->Prop}{P:Prop}(h:∃ a1 a2 a3,p1 a1 a2 a3)(k:∀ a1 a2 a3,p1 a1 a2 a3->P):P:=h.elim λa1 h=>h.elim λa2 h=>h.elim λa3 h=>k a1 a2 a3 h
theorem x8{α1 α2 α3:Sort _}{p1 p2:α1->α2->α3->Prop}{P:Prop}(h:∃ a1 a2 a3,p1 a1 a2 a3/\p2 a1 a2 a3)(k:∀ a1 a2 a3,p1 a1 a2 a3->p2 a1 a2 a3->P):P:=h.elim λa1 h=>h.elim λa2 h=>h.elim λa3 h=>k a1 a2 a3 h.1 h.2
theorem l6{α1 α2 α3:Sort _}{p1 p2 p3:α1->α2->α3->Prop}{P:Prop}(h:∃ a1 a2 a3,p1 a1 a2 a3/\p2 a1 a2 a3/\p3 a1 a2 a3)(k:∀ a1 a2 a3,p1 a1 a2 a3->p2 a1 a2 a3->p3 a1 a2 a3->P):P:=h.elim λa1 h=>h.elim λa2 h=>h.elim λa3 h=>k a1 a2 a3 h.1 h.2.1 h.2.2
theorem T3{α1 α2 α3:Sort _}{p1 p2 p3 p4:α1->α2->α3->Prop}{P:Prop}(h:∃ a1 a2 a3,p1 a1 a2 a3/\p2 a1 a2 a3/\p3 a1 a2 a3/\p4 a1 a2 a3)(k:∀ a1 a2 a3,p1 a1 a2 a3->p2 a1 a2 a3->p3 a1 a2 a3->p4 a1 a2 a3->P):P:=h.elim λa1 h=>h.elim λa2 h=>h.elim λa3 h=>k a1 a2 a3 h.1 h.2.1 h.2.2.1 h.2.2.2
theorem I5{α1 α2 α3:Sort _}{p1 p2 p3 p4 p5:α1->α2->α3->Prop}{P:Prop}(h:∃ a1 a2 a3,p1 a1 a2 a3/\p2 a1 a2 a3/\p3 a1 a2 a3/\p4 a1 a2 a3/\p5 a1 a2 a3)(k:∀ a1 a2 a3,p1 a1 a2 a3->p2 a1 a2 a3->p3 a1 a2 a3->p4 a1 a2 a3->p5 a1 a2 a3->P):P:=h.elim λa1 h=>h.elim λa2 h=>h.elim λa3 h=>k a1 a2 a3 h.1 h.2.1 h.2.2.1 h.2.2.2.1 h.2.2.2.2
theorem ar4{α1 α2 α3:Sort _}{p1 p2 p3 p4 p5 p6:α1->α2->α3->Prop}{P:Prop}(h:∃ a1 a2 a3,p1 a1 a2 a3/\p2 a1 a2 a3/\p3 a1 a2 a3/\p4 a1 a2 a3/\p5 a1 a2 a3/\p6 a1 a2 a3)(k:∀ a1 a2 a3,p1 a1 a2 a3->p2 a1 a2 a3->p3 a1 a2 a3->p4 a1 a2 a3->p5 a1 a2 a3->p6 a1 a2 a3->P):P:=h.elim λa1 h=>h.elim λa2 h=>h.elim λa3 h=>k a1 a2 a3 h.1 h.2.1 h.2.2.1 h.2.2.2.1 h.2.2.2.2.1 h.2.2.2.2.2
theorem B0{α1 α2 α3 α4:Sort _}{p1 p2:α1->α2->α3->α4->Prop}{P:Prop}(h:∃ a1 a2 a3 a4,p1 a1 a2 a3 a4/\p2 a1 a2 a3 a4)(k:∀ a1 a2 a3 a4,p1 a1 a2 a3 a4->p2 a1 a2 a3 a4->P):P:=h.elim λa1 h=>h.elim λa2 h=>h.elim λa3 h=>h.elim λa4 h=>k a1 a2 a3 a4 h.1 h.2
theorem ca9{α1 α2 α3 α4:Sort _}{p1 p2 p3 p4:α1->α2->α3->α4->Prop}{P:Prop}(h:∃ a1 a2 a3 a4,p1 a1 a2 a3 a4/\p2 a1 a2 a3 a4/\p3 a1 a2 a3 a4/\p4 a1 a2 a3 a4)(k:∀ a1 a2 a3 a4,p1 a1 a2 a3 a4->p2 a1 a2 a3 a4->p3 a1 a2 a3 a4->p4 a1 a2 a3 a4->P):P:=h.elim λa1 h=>h.elim λa2 h=>h.elim λa3 h=>h.elim λa4 h=>k a1 a2 a3 a4 h.1 h.2.1 h.2.2.1 h.2.2.2
theorem bR3{α1 α2 α3 α4:Sort _}{p1 p2 p3 p4 p5:α1->α2->α3->α4->Prop}{P:Prop}(h:∃ a1 a2 a3 a4,p1 a1 a2 a3 a4/\p2 a1 a2 a3 a4/\p3 a1 a2 a3 a4/\p4 a1 a2 a3 a4/\p5 a1 a2 a3 a4)(k:∀ a1 a2 a3 a4,p1 a1 a2 a3 a4->p2 a1 a2 a3 a4->p3 a1 a2 a3 a4->p4 a1 a2 a3 a4->p5 a1 a2 a3 a4->P):P:=h.elim λa1 h=>h.elim λa2 h=>h.elim λa3 h=>h.elim λa4 h=>k a1 a2 a3 a4 h.1 h.2.1 h.2.2.1 h.2.2.2.1 h.2.2.2.2
theorem as6{α1 α2 α3 α4:Sort _}{p1 p2 p3 p4 p5 p6:α1->α2->α3->α4->Prop}{P:Prop}(h:∃ a1 a2 a3 a4,p1 a1 a2 a3 a4/\p2 a1 a2 a3 a4/\p3 a1 a2 a3 a4/\p4 a1 a2 a3 a4/\p5 a1 a2 a3 a4/\p6 a1 a2 a3 a4)(k:∀ a1 a2 a3 a4,p1 a1 a2 a3 a4->p2 a1 a2 a3 a4->p3 a1 a2 a3 a4->p4 a1 a2 a3 a4->p5 a1 a2 a3 a4->p6 a1 a2 a3 a4->P):P:=h.elim λa1 h=>h.elim λa2 h=>h.elim λa3 h=>h.elim λa4 h=>k a1 a2 a3 a4 h.1 h.2.1 h.2.2.1 h.2.2.2.1 h.2.2.2.2.1 h.2.2.2.2.2
theorem bq1{α1 α2 α3 α4 α5:Sort _}{p1 p2 p3 p4:α1->α2->α3->α4->α5->Prop}{P:Prop}(h:∃ a1 a2 a3 a4 a5,p1 a1 a2 a3 a4 a5/\p2 a1 a2 a3 a4 a5/\p3 a1 a2 a3 a4 a5/\p4 a1 a2 a3 a4 a5)(k:∀ a1 a2 a3 a4 a5,p1 a1 a2 a3 a4 a5->p2 a1 a2 a3 a4 a5->p3 a1 a2 a3 a4 a5->p4 a1 a2 a3 a4 a5->P):P:=h.elim λa1 h=>h.elim λa2 h=>h.elim λa3 h=>h.elim λa4 h=>h.elim λa5 h=>k a1 a2 a3 a4 a5 h.1 h.2.1 h.2.2.1 h.2.2.2
theorem bn7{α1 α2 α3 α4 α5:Sort _}{p1 p2 p3 p4 p5:α1->α2->α3->α4->α5->Prop}{P:Prop}(h:∃ a1 a2 a3 a4 a5,p1 a1 a2 a3 a4 a5/\p2 a1 a2 a3 a4 a5/\p3 a1 a2 a3 a4 a5/\p4 a1 a2 a3 a4 a5/\p5 a1 a2 a3 a4 a5)(k:∀ a1 a2 a3 a4 a5,p1 a1 a2 a3 a4 a5->p2 a1 a2 a3 a4 a5->p3 a1 a2 a3 a4 a5->p4 a1 a2 a3 a4 a5->p5 a1 a2 a3 a4 a5->P):P:=h.elim λa1 h=>h.elim λa2 h=>h.elim λa3 h=>h.elim λa4 h=>h.elim λa5 h=>k a1 a2 a3 a4 a5 h.1 h.2.1 h.2.2.1 h.2.2.2.1 h.2.2.2.2
theorem bQ4{α1 α2 α3 α4 α5:Sort _}{p1 p2 p3 p4 p5 p6:α1->α2->α3->α4->α5->Prop}{P:Prop}(h:∃ a1 a2 a3 a4 a5,p1 a1 a2 a3 a4 a5/\p2 a1 a2 a3 a4 a5/\p3 a1 a2 a3 a4 a5/\p4 a1 a2 a3 a4 a5/\p5 a1 a2 a3 a4 a5/\p6 a1 a2 a3 a4 a5)(k:∀ a1 a2 a3 a4 a5,p1 a1 a2 a3 a4 a5->p2 a1 a2 a3 a4 a5->p3 a1 a2 a3 a4 a5->p4 a1 a2 a3 a4 a5->p5 a1 a2 a3 a4 a5->p6 a1 a2 a3 a4 a5->P):P:=h.elim λa1 h=>h.elim λa2 h=>h.elim λa3 h=>h.elim λa4 h=>h.elim λa5 h=>k a1 a2 a3 a4 a5 h.1 h.2.1 h.2.2.1 h.2.2.2.1 h.2.2.2.2.1 h.2.2.2.2.2
theorem f9{α:Type}{a:α}{P:Prop}(e:none=some a):P:=(nomatch e)
theorem B5{α:Type}{a:α}{P:Prop}(e:some a=none):P:=(nomatch e)
theorem i5{α:Type}{a b:α}(e:some a=some b):a=b:=Option.some.inj e
inductive V where
 | none
 | bool (b:Bool)
 | int (i:Int)
 | str (s:Str)
 | tup (l:List V)
 | ref (a:Addr)
set_option genInjectivity false
set_option genCtorIdx false
inductive AObj where
 | lst (l:List V)
 | di (l:List (Int×V))
 | ds (l:List (Str×V))
 | ex (x:Str)
set_option genCtorIdx true
abbrev Hp:=Addr->Option AObj
noncomputable def upd(Y:Hp)(a:Addr)(o:AObj):Hp:=λb=>if b=a then some o else Y b
theorem d3(Y:Hp)(a:Addr)(o:AObj):upd Y a o a=some o:=if_pos rfl
theorem d8(Y:Hp){a b:Addr}(o:AObj)(h:b≠a):upd Y a o b=Y b:=if_neg h
theorem O0(Y:Hp)(a:Addr)(o o':AObj):upd (upd Y a o) a o'=upd Y a o':=by
 funext b;unfold upd;split<;>rfl
noncomputable def Sub(Y' Y:Hp):Prop:=∀ a o,Y' a=some o->Y a=some o
theorem Sub.refl(Y:Hp):Sub Y Y:=λz_ z_ h=>h
theorem Sub.trans{a b c:Hp}(h:Sub a b)(k:Sub b c):Sub a c:=λx o e=>k x o (h x o e)
theorem Sub.upd{Y:Hp}{a:Addr}{o:AObj}(h:Y a=none):Sub Y (upd Y a o):=λb o' e=>by
 unfold Internal.upd;rw[if_neg (λq=>by rw[q,h] at e;exact f9 e)];exact e
mutual
noncomputable def Rep(h:Heap):Value->V->Prop
 | x,.none=>x=.none
 | x,.bool b=>x=.bool b
 | x,.int i=>∃ t,x=.int i t
 | x,.str s=>∃ t,x=.str s t
 | x,.tup l=>∃ a vs n,x=.ref a/\h.get? a=some {cls:=.type "tuple",data:=.seq vs n}/\d5 h vs.toList l
 | x,.ref a=>x=.ref a
noncomputable def d5(h:Heap):List Value->List V->Prop
 | vs,[]=>vs=[]
 | vs,x::l=>∃ v us,vs=v::us/\Rep h v x/\d5 h us l
end
section
variable{h:Heap}{x:Value}
theorem Rep.none:Rep h .none .none:=rfl
theorem Rep.bool(b:Bool):Rep h (.bool b) (.bool b):=rfl
theorem Rep.int(i:Int)(t:Tok):Rep h (.int i t) (.int i):=⟨t,rfl⟩
theorem Rep.str(x:Str)(t:Tok):Rep h (.str x t) (.str x):=⟨t,rfl⟩
theorem Rep.tup{a:Addr}{vs:Array Value}{n:Nat}{l:List V}(ho:h.get? a=some {cls:=.type "tuple",data:=.seq vs n})(r:d5 h vs.toList l):Rep h (.ref a) (.tup l):=⟨a,vs,n,rfl,ho,r⟩
theorem Rep.ref(a:Addr):Rep h (.ref a) (.ref a):=rfl
theorem d5.nil:d5 h [] []:=rfl
theorem d5.cons{v:Value}{x:V}{vs:List Value}{l:List V}(r:Rep h v x)(rs:d5 h vs l):d5 h (v::vs) (x::l):=⟨v,vs,rfl,r,rs⟩
theorem Rep.ofNone(r:Rep h x .none):x=.none:=r
theorem Rep.ofBool{b:Bool}(r:Rep h x (.bool b)):x=.bool b:=r
theorem Rep.ofInt{i:Int}(r:Rep h x (.int i)):∃ t,x=.int i t:=r
theorem Rep.ofStr{i:Str}(r:Rep h x (.str i)):∃ t,x=.str i t:=r
theorem Rep.ofTup{l:List V}(r:Rep h x (.tup l)):∃ a vs n,x=.ref a/\h.get? a=some {cls:=.type "tuple",data:=.seq vs n}/\d5 h vs.toList l:=r
theorem Rep.ofRef{a:Addr}(r:Rep h x (.ref a)):x=.ref a:=r
theorem d5.ofNil{vs:List Value}(r:d5 h vs []):vs=[]:=r
theorem d5.ofCons{vs:List Value}{x:V}{l:List V}(r:d5 h vs (x::l)):∃ v us,vs=v::us/\Rep h v x/\d5 h us l:=r
theorem d5.uncons{v:Value}{vs:List Value}{l:List V}(r:d5 h (v::vs) l):∃ y k,l=y::k/\Rep h v y/\d5 h vs k:=by
 cases l with
 | nil=>cases r.ofNil
 | cons y k=>refine g7 r.ofCons λz_ z_ e r1 r2=>?_;cases e;exact⟨y,k,rfl,r1,r2⟩
theorem d5.one{vs:List Value}{x:V}(r:d5 h vs [x]):∃ v,vs=[v]/\Rep h v x:=by
 refine g7 r.ofCons λv us q1_ r1 rs=>?_;subst q1_
 obtain rfl:=rs.ofNil;exact⟨v,rfl,r1⟩
theorem d5.two{vs:List Value}{x y:V}(r:d5 h vs [x,y]):∃ v u,vs=[v,u]/\Rep h v x/\Rep h u y:=by
 refine g7 r.ofCons λv us q1_ r1 rs=>?_;subst q1_
 refine a9 rs.one λu q1_ r'=>?_;subst q1_
 exact⟨v,u,rfl,r1,r'⟩
end
noncomputable def l8(h h':Heap):Prop:=∀ b vs n,h.get? b=some {cls:=.type "tuple",data:=.seq vs n}->h'.get? b=some {cls:=.type "tuple",data:=.seq vs n}
theorem l8.trans{a b c:Heap}(x:l8 a b)(y:l8 b c):l8 a c:=λd vs n e=>y d vs n (x d vs n e)
theorem Rep.mono{h h':Heap}{v:Value}{x:V}(k:l8 h h'):Rep h v x->Rep h' v x:=
 V.rec (motive_1:=λx=>∀ v,Rep h v x->Rep h' v x) (motive_2:=λl=>∀ vs,d5 h vs l->d5 h' vs l) (λz_ r=>r) (λz_ z_ r=>r) (λz_ z_ r=>r) (λz_ z_ r=>r)
  (λl ih v r=>by refine l6 r.ofTup λa vs n e ho r=>?_;exact⟨a,vs,n,e,k _ _ _ ho,ih _ r⟩) (λz_ z_ r=>r) (λz_ r=>r)
  (λx l hx hl vs r=>by refine g7 r.ofCons λv us e r1 r2=>?_;exact⟨v,us,e,hx _ r1,hl _ r2⟩) x v
theorem d5.mono{h h':Heap}{vs:List Value}{l:List V}(k:l8 h h')(r:d5 h vs l):d5 h' vs l:=by
 induction l generalizing vs with
 | nil=>exact r
 | cons x l ih=>refine g7 r.ofCons λv us e r1 r2=>?_;exact⟨v,us,e,r1.mono k,ih r2⟩
theorem d5.length{h:Heap}{vs:List Value}{l:List V}(r:d5 h vs l):vs.length=l.length:=by
 induction l generalizing vs with
 | nil=>rw[r.ofNil];rfl
 | cons x l ih=>refine g7 r.ofCons λv us q1_ r1 r2=>?_;subst q1_;rw[az,az,ih r2]
theorem d5.get{h:Heap}{vs:List Value}{l:List V}{i:Nat}{x:V}(r:d5 h vs l)(e:l[i]?=some x):∃ v,vs[i]?=some v/\Rep h v x:=by
 induction l generalizing vs i with
 | nil=>cases e
 | cons y l ih=>
  refine g7 r.ofCons λv us q1_ r1 r2=>?_;subst q1_
  cases i with
  | zero=>replace e:=i5 e;subst e;exact⟨v,rfl,r1⟩
  | succ i=>exact ih (vs:=us) (i:=i) r2 e
theorem d5.append{h:Heap}{vs us:List Value}{l k:List V}(r:d5 h vs l)(y:d5 h us k):d5 h (vs++us) (l++k):=by
 induction l generalizing vs with
 | nil=>rw[r.ofNil];exact y
 | cons x l ih=>refine g7 r.ofCons λv ws q1_ r1 r2=>?_;subst q1_;exact .cons r1 (ih r2)
structure G where
 prog:Program
 w:World
 h₀:Heap
 mg:Str->Option Value
 mb:Str->Option Value
 ns:h₀.Ns mainGlobals mg
 nb:h₀.Ns builtinsNs mb
 nolimit:h₀.NoLimit
noncomputable def KVs{K:Type}(h:Heap)(kvs:List (K×Value))(L:List (K×V)):Prop:=kvs.map (·.1)=L.map (·.1)/\d5 h (kvs.map (·.2)) (L.map (·.2))
theorem KVs.mono{K:Type}{h h':Heap}{kvs:List (K×Value)}{L:List (K×V)}(r:KVs h kvs L)(t:l8 h h'):KVs h' kvs L:=⟨r.1,r.2.mono t⟩
def n7{prog:Program}{w:World}{K:Type}[DecidableEq K](knd:KeyKind prog w K)(h:Heap)(a:Addr)(l:List (K×V)):Prop:=
 ∀ P_:Prop,(∀ (kvs:List (K×Value)) (d:h.DictOf knd a kvs) (r:KVs h kvs l) (n:(a==sysModules)=false),P_)->P_
noncomputable def u8(g:G)(h:Heap)(a:Addr):AObj->Prop
 | .lst l=>∃ vs,h.PlainList a vs/\d5 h vs.toList l
 | .di l=>n7 (intKind g.prog g.w) h a l
 | .ds l=>n7 (strKind g.prog g.w) h a l
 | .ex x=>∃ C oe vs,g.mg x=some (.ref C)/\h.get? a=some oe/\oe.cls=.ref C/\oe.data=.fields vs
theorem n7.has{prog:Program}{w:World}{K:Type}[DecidableEq K]{knd:KeyKind prog w K}{h:Heap}{a:Addr}{l:List (K×V)}(x:n7 knd h a l):∃ es ep,h.get? a=some {cls:=.type "dict",data:=.dict es ep}:=by
 refine x _ ?_;clear x;rintro kvs d r n;obtain⟨o,es,ep,ho,⟨c1,c2,c3⟩,hdt,-⟩:=d;exact⟨es,ep,by rw[ho];cases o;simp only at c1 c2 c3 hdt;subst c1 c2 c3 hdt;rfl⟩
theorem n7.keep{prog:Program}{w:World}{K:Type}[DecidableEq K]{knd:KeyKind prog w K}{h h':Heap}{a:Addr}{l:List (K×V)}(x:n7 knd h a l)(t:l8 h h')(k:∀ ob,h.get? a=some ob->h'.get? a=some ob):n7 knd h' a l:=by
 refine x _ ?_;clear x;rintro kvs d r n;refine x8 d λo es ep ho q=>?_
 exact(λz_ k_=>k_ kvs ⟨o,es,ep,k o ho,q⟩ (r.mono t) n)
theorem u8.has{g:G}{h:Heap}{a:Addr}{o:AObj}(x:u8 g h a o):∃ ob,h.get? a=some ob:=by
 cases o with
 | lst l=>obtain⟨vs,⟨n,e⟩,_⟩:=x;exact⟨_,e⟩
 | di l=>refine p9 (n7.has x) λes ep e=>?_;exact⟨_,e⟩
 | ds l=>refine p9 (n7.has x) λes ep e=>?_;exact⟨_,e⟩
 | ex y=>refine l6 x λC oe vs z_ e z_=>?_;exact⟨_,e⟩
theorem Ns.kept{h h':Heap}{L:Addr}{m:Str->Option Value}(hn:h.Ns L m)(k:∀ o,h.get? L=some o->∃ o',h'.get? L=some o'/\o'.data=o.data):h'.Ns L m:=by
 refine l6 hn λo es ep ho q r=>?_
 refine a9 (k o ho) λo' ho' d=>?_
 exact⟨o',es,ep,ho',d.trans q,r⟩
theorem Cell.kept{h h':Heap}{c:Addr}{v:Option Value}(hn:h.IsCell c v)(k:∀ o,h.get? c=some o->∃ o',h'.get? c=some o'/\o'.data=o.data):h'.IsCell c v:=by
 refine a9 hn λo ho q=>?_
 refine a9 (k o ho) λo' ho' d=>?_
 exact⟨o',ho',d.trans q⟩
end Internal
set_option genInjectivity false
namespace Internal
noncomputable def KO(p:Prop)(o o':Obj):Prop:=o'=o∨(p/\∃ sl,o'={o with slots:=sl})
noncomputable def IsD(o:Obj):Prop:=∃ es ep,o.data=.dict es ep
theorem KO.trans{p:Prop}{a b c:Obj}(x:KO p a b)(y:KO p b c):KO p a c:=by
 rcases x with rfl | ⟨hp,sl,rfl⟩
 ·exact y
 ·rcases y with rfl | ⟨_,sl',rfl⟩
  ·exact .inr ⟨hp,sl,rfl⟩
  ·exact .inr ⟨hp,sl',rfl⟩
theorem KO.mono{p q:Prop}{a b:Obj}(x:KO p a b)(h:p->q):KO q a b:=x.imp id λy=>⟨h y.1,y.2⟩
theorem KO.data{p:Prop}{a b:Obj}(x:KO p a b):b.data=a.data:=by rcases x with rfl | ⟨_,_,rfl⟩<;>rfl
structure Step(fr own:Addr->Prop)(Y Y':Hp)(s s':Shared):Prop where
 same:s'.gens=s.gens/\s'.os=s.os
 dom:∀ b o,s.heap.get? b=some o->∃ o',s'.heap.get? b=some o'/\(IsD o->IsD o')
 keep:∀ b o,s.heap.get? b=some o->Y b=none->¬ own b->∃ o',s'.heap.get? b=some o'/\KO (fr b) o o'
 tups:l8 s.heap s'.heap
 new:∀ b o,s.heap.get? b=some o->Y b=none->Y' b=none
noncomputable def f2:Addr->Prop:=λz_=>False
noncomputable def inF(A:Around)(b:Addr):Prop:=∃ l e,A.frames=some l/\e∈l/\e.frame=some b
section
variable{fr own:Addr->Prop}
theorem Step.exact{Y Y':Hp}{s s':Shared}(x:Step fr own Y Y' s s'){b:Addr}{o:Obj}(e:s.heap.get? b=some o)(hY:Y b=none)(ho:¬ own b)(hf:¬ fr b):s'.heap.get? b=some o:=by
 refine a9 (x.keep b o e hY ho) λo' e' k=>?_
 rcases k with rfl | ⟨p,_⟩
 ·exact e'
 ·exact absurd p hf
theorem Step.trans{zs Y2 Y3:Hp}{sv s2 s3:Shared}(x:Step fr own zs Y2 sv s2)(y:Step fr own Y2 Y3 s2 s3):Step fr own zs Y3 sv s3 where
 same:=⟨y.same.1.trans x.same.1,y.same.2.trans x.same.2⟩
 dom:=λb o e=>by
  refine a9 (x.dom b o e) λo' e' d=>?_
  refine a9 (y.dom b o' e') λo2 e2 d2=>?_
  exact⟨o2,e2,λh=>d2 (d h)⟩
 keep:=λb o e hY ho=>by
  refine a9 (x.keep b o e hY ho) λo' e' d=>?_
  refine a9 (y.keep b o' e' (x.new b o e hY) ho) λo2 e2 d2=>?_
  exact⟨o2,e2,d.trans d2⟩
 tups:=x.tups.trans y.tups
 new:=λb o e hY=>by
  refine a9 (x.dom b o e) λo' e' z_=>?_
  exact y.new b o' e' (x.new b o e hY)
theorem Step.mono{own':Addr->Prop}{Y Y':Hp}{s s':Shared}(x:Step fr own Y Y' s s')(h:∀ b,own b->own' b):Step fr own' Y Y' s s':=
 ⟨x.same,x.dom,λb o e hY ho=>x.keep b o e hY λq=>ho (h b q),x.tups,x.new⟩
theorem Step.grow{Y:Hp}{s:Shared}{h':Heap}{tk:Nat}(k:∀ b o,s.heap.get? b=some o->h'.get? b=some o):Step fr own Y Y s {s with heap:=h',toks:=tk}:=
 ⟨⟨rfl,rfl⟩,λb o e=>⟨o,k b o e,id⟩,λb o e z_ z_=>⟨o,k b o e,.inl rfl⟩,λb z_ z_ e=>k b _ e,λz_ z_ z_ h=>h⟩
theorem Step.toks{Y:Hp}{s:Shared}{tk:Nat}:Step fr own Y Y s {s with toks:=tk}:=Step.grow λz_ z_ e=>e
theorem Step.refl{Y:Hp}{s:Shared}:Step fr own Y Y s s:=Step.grow (h':=s.heap) (tk:=s.toks) λz_ z_ e=>e
theorem Step.sub{Y zs Y':Hp}{s s':Shared}(x:Step fr own Y zs s s')(h:Sub Y' zs):Step fr own Y Y' s s':=
 ⟨x.same,x.dom,x.keep,x.tups,λb o e hY=>by
  cases q:Y' b with
  | none=>rfl
  | some o'=>rw[<- h b o' q,x.new b o e hY]⟩
end
structure Sim(g:G)(Y:Hp)(h:Heap):Prop where
 stays:g.h₀.StaysIn h
 objs:∀ a o,Y a=some o->u8 g h a o/\g.h₀.get? a=none
theorem Sim.sub{g:G}{Y Y':Hp}{h:Heap}(x:Sim g Y h)(k:Sub Y' Y):Sim g Y' h:=⟨x.stays,λa o e=>x.objs a o (k a o e)⟩
theorem u8.keep{g:G}{h h':Heap}{a:Addr}{o:AObj}(x:u8 g h a o)(t:l8 h h')(k:∀ ob,h.get? a=some ob->h'.get? a=some ob):u8 g h' a o:=by
 cases o with
 | lst l=>refine a9 x λvs hp r=>?_;exact⟨vs,hp.at k,r.mono t⟩
 | di l=>exact n7.keep x t k
 | ds l=>exact n7.keep x t k
 | ex y=>refine l6 x λC oe vs h1 e h2=>?_;exact⟨C,oe,vs,h1,k _ e,h2⟩
theorem Sim.grow{g:G}{Y:Hp}{h h':Heap}(x:Sim g Y h)(k:∀ b o,h.get? b=some o->h'.get? b=some o):Sim g Y h':=
 ⟨λb o e=>k b o (x.stays b o e),λa o e=>⟨(x.objs a o e).1.keep (λb z_ z_ e=>k b _ e) λob eb=>k a ob eb,(x.objs a o e).2⟩⟩
noncomputable def I8(env:Env)(h:Heap)(m:Str->Option Value)(x:Str)(v:Option V):Prop:=
 (env.kindOf x=some .local/\∀ V,v=some V->∃ r,m x=some r/\Rep h r V)∨
 (env.kindOf x=some .cell/\∃ c r,env.cells.lookup x=some c/\h.IsCell c r/\∀ V,v=some V->∃ rv,r=some rv/\Rep h rv V)
noncomputable def i9(env:Env)(b:Addr):Prop:=b=env.locals∨∃ x,env.cells.lookup x=some b
structure Blk where
 sc:Scope
 vars:List Str
 d:Nat
 q:Bool
structure Loc(env:Env)(vars:List Str)(Z:List (Option V))(Y:Hp)(h:Heap):Prop where
 len:Z.length=vars.length
 ns:∃ m,h.Ns env.locals m/\∀ (i:Nat) (x:Str) (v:Option V),vars[i]?=some x->Z[i]?=some v->I8 env h m x v
 free:∀ b,i9 env b->Y b=none
 live:∀ x c,env.cells.lookup x=some c->∃ v,h.IsCell c v
 apart:∀ x y c,env.cells.lookup x=some c->env.cells.lookup y=some c->x=y
 other:∀ x c,env.cells.lookup x=some c->c≠env.locals
def N9(g:G)(Y:Hp)(h:Heap)(e:Env):Prop:=
 ∀ P_:Prop,(∀ (L:Addr) (hk:e.scope.kind≠.module) (hf:e.frame=some L) (hb:g.h₀.get? L=none) (hs:Y L=none) (o:Obj) (ho:h.get? L=some o) (d:IsD o),P_)->P_
def FrL(g:G)(A:Around)(Y:Hp)(h:Heap):Prop:=
 ∀ P_:Prop,(∀ (l:List Env) (ha:A.frames=some l) (all:∀ e∈l,N9 g Y h e),P_)->P_
def Frs(g:G)(A:Around)(env:Env)(Y:Hp)(h:Heap):Prop:=
 ∀ P_:Prop,(∀ (e0:Env) (l:List Env) (ha:A.frames=some (e0::l)) (hf:e0.frame=env.frame) (all:∀ e∈e0::l,N9 g Y h e),P_)->P_
theorem N9.step{g:G}{Y Y':Hp}{s s':Shared}{fr own:Addr->Prop}{e:Env}(x:N9 g Y s.heap e)(y:Step fr own Y Y' s s'):N9 g Y' s'.heap e:=by
 refine x _ ?_;clear x;rintro L hk hf hb hs o ho d;refine a9 (y.dom L o ho) λo' ho' d'=>?_
 exact(λz_ k_=>k_ L hk hf hb (y.new L o ho hs) o' ho' (d' d))
theorem Frs.step{g:G}{A:Around}{env:Env}{Y Y':Hp}{s s':Shared}{fr own:Addr->Prop}(x:Frs g A env Y s.heap)(y:Step fr own Y Y' s s'):Frs g A env Y' s'.heap:=by
 refine x _ ?_;clear x;rintro e0 l ha hf all;exact(λz_ k_=>k_ e0 l ha hf (λe he=>(all e he).step y))
theorem Frs.l{g:G}{A:Around}{env:Env}{Y:Hp}{h:Heap}(x:Frs g A env Y h):FrL g A Y h:=by
 refine x _ ?_;clear x;rintro e0 l ha hf all;exact(λz_ k_=>k_ _ ha all)
theorem Frs.not{g:G}{A:Around}{env:Env}{Y:Hp}{h:Heap}(x:Frs g A env Y h){b:Addr}(hb:h.get? b=none∨Y b≠none):¬ inF A b:=λq=>by
 refine g7 q λl e hl he hf=>?_
 refine x _ ?_;clear x;rintro e0 l' ha-all;rw[hl] at ha;replace ha:=i5 ha;subst ha;refine(all e he) _ ?_;rintro L-hf'-hs o ho -;rw[hf] at hf';replace hf':=i5 hf';subst hf';rcases hb with hb | hb
 ·rw[hb] at ho;exact f9 ho
 ·exact hb hs
structure Inv(g:G)(F:Blk)(A:Around)(env:Env)(Z:List (Option V))(Y:Hp)(s:Shared):Prop where
 scope:env.scope=F.sc
 fn:env.scope.kind=.function
 glob:env.globals=mainGlobals
 bltn:env.builtins=builtinsNs
 room:A.depth+F.d<recursionLimit
 units:A.units+8*F.d<cLine
 quiet:F.q=true->A.handled=none
 sim:Sim g Y s.heap
 loc:Loc env F.vars Z Y s.heap
 base:∀ b,i9 env b->g.h₀.get? b=none
 nd:F.vars.Nodup
 frs:Frs g A env Y s.heap
theorem I8.keep{env:Env}{h h':Heap}{m:Str->Option Value}{x:Str}{v:Option V}(y:I8 env h m x v)(t:l8 h h')(k:∀ y c,env.cells.lookup y=some c->∀ o,h.get? c=some o->∃ o',h'.get? c=some o'/\o'.data=o.data):I8 env h' m x v:=by
 rcases y with ⟨e,y⟩ | ⟨e,c,r,hc,hcell,y⟩
 ·exact .inl ⟨e,λV hV=>by refine a9 (y V hV) λr e1 e2=>?_;exact⟨r,e1,e2.mono t⟩⟩
 ·exact .inr ⟨e,c,r,hc,Cell.kept hcell λo q=>k x c hc o q,λV hV=>by refine a9 (y V hV) λr e1 e2=>?_;exact⟨r,e1,e2.mono t⟩⟩
theorem Loc.keep{env:Env}{vars:List Str}{Z:List (Option V)}{Y Y':Hp}{s s':Shared}(l:Loc env vars Z Y s.heap){fr:Addr->Prop}(x:Step fr f2 Y Y' s s'):Loc env vars Z Y' s'.heap:=by
 refine a9 l.ns λm hn hv=>?_
 have k:∀ b,i9 env b->∀ o,s.heap.get? b=some o->∃ o',s'.heap.get? b=some o'/\o'.data=o.data:=λb hb o e=>by
  refine a9 (x.keep _ _ e (l.free _ hb) id) λo' e' q=>?_
  exact⟨o',e',q.data⟩
 refine⟨l.len,⟨m,Ns.kept hn (k _ (.inl rfl)),λi y v e1 e2=>(hv i y v e1 e2).keep x.tups λy c hc=>k c (.inr ⟨y,hc⟩)⟩,λb hb=>?_,λy c hc=>?_,l.apart,l.other⟩
 ·rcases hb with rfl | ⟨y,hc⟩
  ·refine x8 hn λo z_ z_ ho z_=>?_
   exact x.new _ o ho (l.free _ (.inl rfl))
  ·refine j6 (l.live y b hc) λz_ o ho z_=>?_
   exact x.new _ o ho (l.free _ (.inr ⟨y,hc⟩))
 ·refine c6 (l.live y c hc) λv hv=>?_
  exact⟨v,Cell.kept hv (k c (.inr ⟨y,hc⟩))⟩
theorem Inv.keep{g:G}{F:Blk}{A:Around}{env:Env}{Z:List (Option V)}{Y Y':Hp}{s s':Shared}(I:Inv g F A env Z Y s)(x:Step (inF A) f2 Y Y' s s')(y:Sim g Y' s'.heap):Inv g F A env Z Y' s':=
 ⟨I.scope,I.fn,I.glob,I.bltn,I.room,I.units,I.quiet,y,I.loc.keep x,I.base,I.nd,I.frs.step x⟩
def K0(g:G)(e:Value)(x:Str)(h1:Heap)(Y:Hp)(h:Heap)(vs:Array Value)(a:Addr):Prop:=
 ∀ P_:Prop,(∀ (C:Addr) (oe:Obj) (a0:Value) (he:e=.ref a) (n:h1.get? a=none) (b:g.h₀.get? a=none) (hs:Y a=none) (ho:h.get? a=some oe) (hc:oe.cls=.ref C) (hx:g.mg x=some (.ref C))
   (hd:oe.data=.fields vs) (h0:vs[0]?=some a0),P_)->P_
def E5(g:G)(e:Value)(x:Str)(zq:Heap)(Y:Hp)(h:Heap)(fl:Value):Prop:=
 ∀ P_:Prop,(∀ (a:Addr) (vs:Array Value) (y:K0 g e x zq Y h vs a) (T:Addr) (oT:Obj) (ts:Array Value) (h1:vs[1]?=some (.ref T)) (nT:zq.get? T=none) (bT:g.h₀.get? T=none) (sT:Y T=none) (ne:T≠a)
   (hT:h.get? T=some oT) (dT:oT.data=.fields ts) (h3:ts[3]?=some fl),P_)->P_
inductive Fly(g:G)(A:Around)(e:Value)(x:Str)(zq:Heap)(Y:Hp)(h:Heap):Prop
 | made (a:Addr) (vs:Array Value) (y:K0 g e x zq Y h vs a) (h1:vs[1]?=some .none):Fly g A e x zq Y h
 | on (fl:Value) (y:E5 g e x zq Y h fl) (hfl:fl=.none∨∃ l v L,A.frames=some (v::l)/\v.frame=some L/\fl=rawInt L):Fly g A e x zq Y h
theorem Step.nix{fr own:Addr->Prop}{Y Y':Hp}{s s':Shared}(x:Step fr own Y Y' s s'){b:Addr}(h:s'.heap.get? b=none):s.heap.get? b=none:=by
 cases q:s.heap.get? b with
 | none=>rfl
 | some o=>refine a9 (x.dom b o q) λo' e z_=>?_;rw[h] at e;exact f9 e
section
variable{g:G}{A:Around}{e:Value}{x:Str}{fr own:Addr->Prop}{Y zs Y':Hp}{s sv:Shared}{h:Heap}
theorem K0.step{vs:Array Value}{a:Addr}(y:Step fr own Y zs s sv)(f:K0 g e x sv.heap Y' h vs a):K0 g e x s.heap Y' h vs a:=by
 refine f _ ?_;clear f;rintro C oe a0 he n b hs ho hc hx hd h0;exact(λz_ k_=>k_ C oe a0 he (y.nix n) b hs ho hc hx hd h0)
theorem Fly.sig{zq:Heap}(f:Fly g A e x zq Y h)(k:∀ b,zq.get? b=none->Y b=none->Y' b=none):Fly g A e x zq Y' h:=by
 have kx:∀ {vs:Array Value} {a:Addr},K0 g e x zq Y h vs a->K0 g e x zq Y' h vs a:=fun{vs a} z=>by
  refine z _ ?_;clear z;rintro C oe a0 he n b hs ho hc hx hd h0;exact(λz_ k_=>k_ C oe a0 he n b (k a n hs) ho hc hx hd h0)
 cases f with
 | made a vs z h1=>exact .made a vs (kx z) h1
 | on fl z hfl=>
  refine z _ ?_;clear z;rintro a vs z T oT ts h1 nT bT sT ne hT dT h3;exact .on fl (λz_ k_=>k_ a vs (kx z) T oT ts h1 nT bT (k T nT sT) ne hT dT h3) hfl
theorem Fly.sub{h1:Heap}(f:Fly g A e x h1 Y h)(k:Sub Y' Y):Fly g A e x h1 Y' h:=f.sig λb z_ hb=>by
 cases q:Y' b with
 | none=>rfl
 | some o=>rw[<- k b o q,hb]
theorem E5.step{fl:Value}(y:Step fr own Y zs s sv)(f:E5 g e x sv.heap Y' h fl):E5 g e x s.heap Y' h fl:=by
 refine f _ ?_;clear f;rintro a vs z T oT ts h1 nT bT sT ne hT dT h3;exact(λz_ k_=>k_ a vs (z.step y) T oT ts h1 (y.nix nT) bT sT ne hT dT h3)
theorem Fly.step(f:Fly g A e x sv.heap Y' h)(y:Step fr own Y zs s sv):Fly g A e x s.heap Y' h:=by
 cases f with
 | made a vs z h1=>exact .made a vs (z.step y) h1
 | on fl z hfl=>exact .on fl (z.step y) hfl
end
def l9(g:G)(F:Blk)(A:Around)(env:Env)(Z:List (Option V))(Y:Hp)(s:Shared)(Q:V->Hp->Prop)(v:Value)(s':Shared):Prop:=
 ∀ P_:Prop,(∀ (V:V) (Y':Hp) (r:Rep s'.heap v V) (i:Inv g F A env Z Y' s') (y:Step (inF A) f2 Y Y' s s') (q:Q V Y'),P_)->P_
def G5(g:G)(F:Blk)(A:Around)(env:Env)(Z:List (Option V))(Y:Hp)(s:Shared)(Q:Bool->Hp->Prop)(b:Bool)(s':Shared):Prop:=
 ∀ P_:Prop,(∀ (Y':Hp) (i:Inv g F A env Z Y' s') (y:Step (inF A) f2 Y Y' s s') (q:Q b Y'),P_)->P_
def k9(g:G)(F:Blk)(A:Around)(env:Env)(Z:List (Option V))(Y:Hp)(s:Shared)(X:Str->Hp->Prop)(e:Value)(s':Shared):Prop:=
 ∀ P_:Prop,(∀ (x:Str) (Y':Hp) (f:Fly g A e x s.heap Y' s'.heap) (i:Inv g F A env Z Y' s') (y:Step (inF A) f2 Y Y' s s') (q:X x Y'),P_)->P_
theorem k9.no{g F A env Z Y s v s'}{P:Prop}(p:k9 g F A env Z Y s (λz_ z_=>False) v s'):P:=p _ λz_ z_ z_ z_ z_ q=>q.elim
theorem l9.step{g F A env Z Y zs s sv Q v s'}(x:Step (inF A) f2 Y zs s sv)(p:l9 g F A env Z zs sv Q v s'):l9 g F A env Z Y s Q v s':=
 by refine p _ ?_;clear p;rintro V Y' r i y q;exact(λz_ k_=>k_ V Y' r i (x.trans y) q)
theorem G5.step{g F A env Z Y zs s sv Q v s'}(x:Step (inF A) f2 Y zs s sv)(p:G5 g F A env Z zs sv Q v s'):G5 g F A env Z Y s Q v s':=
 by refine p _ ?_;clear p;rintro Y' i y q;exact(λz_ k_=>k_ Y' i (x.trans y) q)
theorem k9.step{g F A env Z Y zs s sv X v s'}(x:Step (inF A) f2 Y zs s sv)(p:k9 g F A env Z zs sv X v s'):k9 g F A env Z Y s X v s':=
 by refine p _ ?_;clear p;rintro V Y' r i y q;exact(λz_ k_=>k_ V Y' (r.step x) i (x.trans y) q)
section
variable{g:G}{F:Blk}{A:Around}{env:Env}{Z:List (Option V)}{Y:Hp}{s:Shared}{X:Str->Hp->Prop}{E:Value->Shared->Prop}
theorem pgo{m:Sem Value}{Q:V->Hp->Prop}{P:Value->Shared->Prop}(h:wpAny (model g.prog g.w) A m (l9 g F A env Z Y s Q) (k9 g F A env Z Y s X) s)
  (k:∀ v sv V zs,Rep sv.heap v V->Inv g F A env Z zs sv->Step (inF A) f2 Y zs s sv->Q V zs->P v sv) (kx:∀ e s',k9 g F A env Z Y s X e s'->E e s'):wpAny (model g.prog g.w) A m P E s:=
 wpAny_mono h (λv sv p=>p _ (k v sv)) kx
theorem A6{m:Sem Bool}{Q:Bool->Hp->Prop}{P:Bool->Shared->Prop}(h:wpAny (model g.prog g.w) A m (G5 g F A env Z Y s Q) (k9 g F A env Z Y s X) s)
  (k:∀ v sv zs,Inv g F A env Z zs sv->Step (inF A) f2 Y zs s sv->Q v zs->P v sv) (kx:∀ e s',k9 g F A env Z Y s X e s'->E e s'):wpAny (model g.prog g.w) A m P E s:=
 wpAny_mono h (λv sv p=>p _ (k v sv)) kx
end
def Ev(g:G)(F:Blk)(e:Expr)(Z:List (Option V))(Y:Hp)(Q:V->Hp->Prop)(X:Str->Hp->Prop):Prop:=
 ∀ A env s,Inv g F A env Z Y s->wpAny (model g.prog g.w) A (eval e env) (l9 g F A env Z Y s Q) (k9 g F A env Z Y s X) s
def Tst(g:G)(F:Blk)(e:Expr)(Z:List (Option V))(Y:Hp)(Q:Bool->Hp->Prop)(X:Str->Hp->Prop):Prop:=
 ∀ A env s,Inv g F A env Z Y s->wpAny (model g.prog g.w) A (isTrue e env (eval e env)) (G5 g F A env Z Y s Q) (k9 g F A env Z Y s X) s
section
variable{g:G}{F:Blk}{Z:List (Option V)}{Y:Hp}{Q:V->Hp->Prop}{X:Str->Hp->Prop}
theorem Ev.mono{e:Expr}{Q':V->Hp->Prop}(h:Ev g F e Z Y Q X)(k:∀ v Y,Q v Y->Q' v Y):Ev g F e Z Y Q' X:=(λA env s I=>
 pgo (h A env s I) (λz_ z_ V Y' r i y q=>(λz_ k_=>k_ V Y' r i y (k _ _ q))) λz_ z_ p=>p)
theorem bz0{i:Int}{k:Nat}{pos:Pos}(h:Q (.int i) Y):Ev g F (.Constant (.int i) k pos) Z Y Q X:=(λA env s I=>
 wpAny_Constant_int (λz_ k_=>k_ _ Y (.int _ _) (I.keep Step.toks I.sim) Step.toks h))
theorem cb7{i:Str}{k:Nat}{pos:Pos}(h:Q (.str i) Y):Ev g F (.Constant (.str i) k pos) Z Y Q X:=(λA env s I=>
 wpAny_Constant_str (λz_ k_=>k_ _ Y (.str _ _) (I.keep Step.toks I.sim) Step.toks h))
theorem bB9{k:Nat}{pos:Pos}(h:Q .none Y):Ev g F (.Constant .none k pos) Z Y Q X:=(λA env s I=>
 wpAny_Constant_none (λz_ k_=>k_ _ Y .none I Step.refl h))
theorem bh4{b:Bool}{k:Nat}{pos:Pos}(h:Q (.bool b) Y):Ev g F (.Constant (.bool b) k pos) Z Y Q X:=(λA env s I=>
 wpAny_Constant_bool (λz_ k_=>k_ _ Y (.bool _) I Step.refl h))
end
def Op2(g:G)(F:Blk)(t:Value->Value->Sem Value)(a b:V)(Z:List (Option V))(Y:Hp)(Q:V->Hp->Prop)(X:Str->Hp->Prop):Prop:=
 ∀ A env s x y,Inv g F A env Z Y s->Rep s.heap x a->Rep s.heap y b->wpAny (model g.prog g.w) A (t x y) (l9 g F A env Z Y s Q) (k9 g F A env Z Y s X) s
def Op1(g:G)(F:Blk)(t:Value->Sem Value)(a:V)(Z:List (Option V))(Y:Hp)(Q:V->Hp->Prop)(X:Str->Hp->Prop):Prop:=
 ∀ A env s x,Inv g F A env Z Y s->Rep s.heap x a->wpAny (model g.prog g.w) A (t x) (l9 g F A env Z Y s Q) (k9 g F A env Z Y s X) s
def Tru(g:G)(F:Blk)(a:V)(Z:List (Option V))(Y:Hp)(Q:Bool->Hp->Prop)(X:Str->Hp->Prop):Prop:=
 ∀ A env s x,Inv g F A env Z Y s->Rep s.heap x a->wpAny (model g.prog g.w) A (truthy x) (G5 g F A env Z Y s Q) (k9 g F A env Z Y s X) s
def aw6(g:G)(F:Blk)(A:Around)(env:Env)(Z:List (Option V))(Y:Hp)(s:Shared)(Q:List V->Hp->Prop)(vs:List Value)(s':Shared):Prop:=
 ∀ P_:Prop,(∀ (Vs:List V) (Y':Hp) (r:d5 s'.heap vs Vs) (i:Inv g F A env Z Y' s') (y:Step (inF A) f2 Y Y' s s') (q:Q Vs Y'),P_)->P_
theorem K7{g:G}{F:Blk}{A:Around}{env:Env}{Z:List (Option V)}{Y:Hp}{s:Shared}{X:Str->Hp->Prop}{E:Value->Shared->Prop}{m:Sem (List Value)}{Q:List V->Hp->Prop}{P:List Value->Shared->Prop}(h:wpAny (model g.prog g.w) A m (aw6 g F A env Z Y s Q) (k9 g F A env Z Y s X) s)
  (k:∀ v sv V zs,d5 sv.heap v V->Inv g F A env Z zs sv->Step (inF A) f2 Y zs s sv->Q V zs->P v sv) (kx:∀ e s',k9 g F A env Z Y s X e s'->E e s'):wpAny (model g.prog g.w) A m P E s:=
 wpAny_mono h (λv sv p=>p _ (k v sv)) kx
def Evs(g:G)(F:Blk)(es:List Expr)(Z:List (Option V))(Y:Hp)(Q:List V->Hp->Prop)(X:Str->Hp->Prop):Prop:=
 ∀ A env s pos,Inv g F A env Z Y s->wpAny (model g.prog g.w) A (spliced (backTo pos (starEach es env)))
  (aw6 g F A env Z Y s Q) (k9 g F A env Z Y s X) s/\(backTo pos (starEach es env)).any (·.1)=false
def Itm(g:G)(F:Blk)(a b:V)(Z:List (Option V))(Y:Hp)(Q:V->Hp->Prop)(X:Str->Hp->Prop):Prop:=
 ∀ A env s x y,Inv g F A env Z Y s->Rep s.heap x a->Rep s.heap y b->∃ T id,s.TypeIs x T/\typeLookup (.type T) "__getitem__" = pure (some (.builtin id))/\
  wpAny (model g.prog g.w) A (getItem x y) (l9 g F A env Z Y s Q) (k9 g F A env Z Y s X) s
section
variable{g:G}{F:Blk}{Z:List (Option V)}{Y:Hp}{Q:V->Hp->Prop}{QB:Bool->Hp->Prop}{X:Str->Hp->Prop}
theorem B3{A env s}{i:Int}{tk tk':Nat}(I:Inv g F A env Z Y s)(h:Q (.int i) Y):l9 g F A env Z Y s Q (.int i tk) {s with toks:=tk'}:=
 (λz_ k_=>k_ _ Y (.int _ _) (I.keep Step.toks I.sim) Step.toks h)
theorem n6{A env s}{b:Bool}(I:Inv g F A env Z Y s)(h:Q (.bool b) Y):l9 g F A env Z Y s Q (.bool b) s:=
 (λz_ k_=>k_ _ Y (.bool _) I Step.refl h)
theorem m7{A env s}{b:Bool}{tk':Nat}(I:Inv g F A env Z Y s)(h:Q (.bool b) Y):l9 g F A env Z Y s Q (.bool b) {s with toks:=tk'}:=
 (λz_ k_=>k_ _ Y (.bool _) (I.keep Step.toks I.sim) Step.toks h)
theorem B8{A env s v V}(I:Inv g F A env Z Y s)(r:Rep s.heap v V)(h:Q V Y):l9 g F A env Z Y s Q v s:=(λz_ k_=>k_ V Y r I Step.refl h)
theorem aN6{x:Str}{pos:Pos}{i:Nat}{v:V}(hx:F.vars[i]?=some x)(hv:Z[i]?=some (some v))(h:Q v Y)(hd:(x==("__debug__" : Str))=false) :
  Ev g F (.Name x pos) Z Y Q X:=(λA env s I=>by
 refine a9 I.loc.ns λm hn hm=>?_
 refine wpAny_Name ?_ hd;rcases hm i x _ hx hv with ⟨hk,e⟩ | ⟨hk,c,r,hc,hcell,e⟩
 ·refine a9 (e v rfl) λr e1 e2=>?_
  exact wpAny_loadName_local I.fn hk hn e1 (B8 I e2 h)
 ·refine a9 (e v rfl) λr' q1_ e2=>?_;subst q1_
  exact wpAny_loadName_cell I.fn hk hc hcell (B8 I e2 h))
theorem aL5{l r:Expr}{op:Operator}{pos:Pos}(h:Ev g F l Z Y (λa zs=>Ev g F r Z zs (λb Y2=>Op2 g F (binaryOp op) a b Z Y2 Q X) X) X) :
  Ev g F (.BinOp l op r pos) Z Y Q X:=(λA env s I=>
 wpAny_BinOp (pgo (h A env s I) (λa sv Va zs ra I1 st1 h1=>pgo (h1 A env sv I1) (λb s2 Vb Y2 rb sw st2 h2=>wpAny_mono (h2 A env s2 a b sw (ra.mono st2.tups) rb) (λz_ z_ p=>(p.step st2).step st1) λz_ z_ p=>(p.step st2).step st1) λz_ z_ p=>p.step st1) λz_ z_ p=>p))
theorem aS6{l r:Expr}{op:CmpOp}{pos:Pos}(h:Ev g F l Z Y (λa zs=>Ev g F r Z zs (λb Y2=>Op2 g F (compareOp op) a b Z Y2 Q X) X) X)(hm:behindInMarks op r=false) :
  Ev g F (.Compare l [op] [r] pos) Z Y Q X:=(λA env s I=>
 wpAny_Compare1 (pgo (h A env s I) (λa sv Va zs ra I1 st1 h1=>pgo (h1 A env sv I1) (λb s2 Vb Y2 rb sw st2 h2=>wpAny_mono (h2 A env s2 a b sw (ra.mono st2.tups) rb) (λz_ z_ p=>(p.step st2).step st1) λz_ z_ p=>(p.step st2).step st1) λz_ z_ p=>p.step st1) λz_ z_ p=>p) hm)
theorem aJ1{x:Expr}{op:UnaryOp}{pos:Pos}(h:Ev g F x Z Y (λa zs=>Op1 g F (unaryOp op) a Z zs Q X) X):Ev g F (.UnaryOp op x pos) Z Y Q X:=(λA env s I=>
 wpAny_UnaryOp (pgo (h A env s I) (λa sv Va zs ra I1 st1 h1=>wpAny_mono (h1 A env sv a I1 ra) (λz_ z_ p=>p.step st1) λz_ z_ p=>p.step st1) λz_ z_ p=>p))
theorem B6{t:Value->Value->Sem Value}{a b:Int}(k:∀ A env s u v,Inv g F A env Z Y s->wpAny (model g.prog g.w) A (t (.int a u) (.int b v)) (l9 g F A env Z Y s Q) (k9 g F A env Z Y s X) s):Op2 g F t (.int a) (.int b) Z Y Q X:=(λA env s x y I rx ry=>by
 refine c6 rx.ofInt λu q1_=>?_;subst q1_;refine c6 ry.ofInt λv q1_=>?_;subst q1_;exact k A env s u v I)
theorem aZ8{a b:Int}(h:Q (.int (a+b)) Y):Op2 g F (binaryOp .Add) (.int a) (.int b) Z Y Q X:=B6 λA env s z_ z_ I=>P.add_int (B3 I h)
theorem aR7{a b:Int}(h:Q (.int (a-b)) Y):Op2 g F (binaryOp .Sub) (.int a) (.int b) Z Y Q X:=B6 λA env s z_ z_ I=>P.sub_int (B3 I h)
theorem ay5{a b:Int}(h:Q (.int (a*b)) Y)(hm:IntMulOk a b):Op2 g F (binaryOp .Mult) (.int a) (.int b) Z Y Q X:=B6 λA env s z_ z_ I=>P.mul_int (B3 I h) hm
theorem bX6{a b:Int}(hb:b≠0)(h:Q (.int (a.fmod b)) Y):Op2 g F (binaryOp .Mod) (.int a) (.int b) Z Y Q X:=B6 λA env s z_ z_ I=>PyProof.Rows.mod_int' hb (B3 I h)
theorem ci5{a b:Int}(hb:b≠0)(hl:b.natAbs.log2<9000)(h:Q (.int (a.fdiv b)) Y):Op2 g F (binaryOp .FloorDiv) (.int a) (.int b) Z Y Q X:=B6 λA env s z_ z_ I=>PyProof.Rows.floordiv_int hb (B3 I h) (Or.inl (PyProof.noPylong_of_log2 hl))
theorem br2{a b:Int}(hb:0<=b)(hl:(Builtin.Int.intBits a:Int)*b<=2 ^ 27)(h:Q (.int (a ^ b.toNat)) Y):Op2 g F (binaryOp .Pow) (.int a) (.int b) Z Y Q X:=B6 λA env s z_ z_ I=>PyProof.Rows.pow_int hb hl (B3 I h)
theorem bV4{a b:Int}(h:Q (.bool (decide (a<b))) Y):Op2 g F (compareOp .Lt) (.int a) (.int b) Z Y Q X:=B6 λA env s z_ z_ I=>P.lt_int (n6 I h)
theorem bU8{a b:Int}(h:Q (.bool (decide (a<=b))) Y):Op2 g F (compareOp .LtE) (.int a) (.int b) Z Y Q X:=B6 λA env s z_ z_ I=>P.le_int (n6 I h)
theorem aZ3{a b:Int}(h:Q (.bool (decide (a > b))) Y):Op2 g F (compareOp .Gt) (.int a) (.int b) Z Y Q X:=B6 λA env s z_ z_ I=>P.gt_int (n6 I h)
theorem bt3{a b:Int}(h:Q (.bool (decide (a≥b))) Y):Op2 g F (compareOp .GtE) (.int a) (.int b) Z Y Q X:=B6 λA env s z_ z_ I=>P.ge_int (n6 I h)
theorem bS6{a b:Int}(h:Q (.bool (a==b)) Y):Op2 g F (compareOp .Eq) (.int a) (.int b) Z Y Q X:=B6 λA env s z_ z_ I=>P.eq_int (n6 I h)
theorem bK9{a b:Int}(h:Q (.bool (a != b)) Y):Op2 g F (compareOp .NotEq) (.int a) (.int b) Z Y Q X:=B6 λA env s z_ z_ I=>P.ne_int (n6 I h)
theorem bS9{a:Int}(h:Q (.int (-a)) Y):Op1 g F (unaryOp .USub) (.int a) Z Y Q X:=(λA env s x I rx=>by
 refine c6 rx.ofInt λz_ q1_=>?_;subst q1_;exact P.neg_int (B3 I h))
theorem al0{b:Bool}(h:QB b Y):Tru g F (.bool b) Z Y QB X:=(λA env s x I rx=>by
 obtain rfl:=rx.ofBool;exact wpAny_truthy_bool (λz_ k_=>k_ Y I Step.refl h))
theorem bJ6{a:Int}(h:QB (a != 0) Y):Tru g F (.int a) Z Y QB X:=(λA env s x I rx=>by
 refine c6 rx.ofInt λz_ q1_=>?_;subst q1_;exact P.truthy_int (λz_ k_=>k_ Y I Step.refl h))
theorem bV2{a:V}(h:Tru g F a Z Y (λb Y'=>Q (.bool (!b)) Y') X):Op1 g F (unaryOp .Not) a Z Y Q X:=(λA env s x I rx=>
 not_value (A6 (h A env s x I rx) (λb s' Y' I' st q=>(λz_ k_=>k_ _ Y' (.bool _) I' st q)) λz_ z_ p=>p))
theorem Ev.tst_of{e:Expr}(h:Ev g F e Z Y (λv zs=>Tru g F v Z zs QB X) X)(he:∀ env whole,isTrue e env whole=(do let v <- whole;standAt e.pos;holding [v] (truthy v))):Tst g F e Z Y QB X:=(λA env s I=>
 wpAny_isTrue_value (pgo (h A env s I) (λa sv Va zs ra I1 st1 h1=>wpAny_mono (h1 A env sv a I1 ra) (λz_ z_ p=>p.step st1) λz_ z_ p=>p.step st1) λz_ z_ p=>p) (he env _))
theorem aw0{l r:Expr}{op:CmpOp}{pos:Pos}(h:Ev g F l Z Y (λa zs=>Ev g F r Z zs (λb Y2=>Op2 g F (compareOp op) a b Z Y2 (λv Y3=>Tru g F v Z Y3 QB X) X) X) X)(hm:behindInMarks op r=false) :
  Tst g F (.Compare l [op] [r] pos) Z Y QB X:=(λA env s I=>
 wpAny_isTrue_Compare1 (pgo (h A env s I) (λa sv Va zs ra I1 st1 h1=>pgo (h1 A env sv I1) (λb s2 Vb Y2 rb sw st2 h2=>pgo (h2 A env s2 a b sw (ra.mono st2.tups) rb) (λc s3 Vc Y3 rc I3 st3 h3=>
   wpAny_mono (h3 A env s3 c I3 rc) (λz_ z_ p=>((p.step st3).step st2).step st1) λz_ z_ p=>((p.step st3).step st2).step st1) λz_ z_ p=>(p.step st2).step st1) λz_ z_ p=>p.step st1) λz_ z_ p=>p) hm)
theorem bD3{x:Expr}{pos:Pos}(h:Tst g F x Z Y (λb zs=>QB (!b) zs) X):Tst g F (.UnaryOp .Not x pos) Z Y QB X:=(λA env s I=>
 wpAny_isTrue_Not (A6 (h A env s I) (λz_ z_ a b c d=>(λz_ k_=>k_ a b c d)) λz_ z_ p=>p))
def F7(g:G)(F:Blk)(op:BoolOp)(es:List Expr)(Z:List (Option V))(Y:Hp)(Q:Bool->Hp->Prop)(X:Str->Hp->Prop):Prop:=
 ∀ A env s,Inv g F A env Z Y s->wpAny (model g.prog g.w) A (allTrue op es env) (G5 g F A env Z Y s Q) (k9 g F A env Z Y s X) s
theorem aG9{op:BoolOp}{es:List Expr}{pos:Pos}(h:F7 g F op es Z Y QB X):Tst g F (.BoolOp op es pos) Z Y QB X:=(λA env s I=>wpAny_isTrue_BoolOp (h A env s I))
theorem bZ9(h:QB true Y):F7 g F .And [] Z Y QB X:=(λA env s I=>wpAny_allTrue_And_nil (λz_ k_=>k_ Y I Step.refl h))
theorem bZ6(h:QB false Y):F7 g F .Or [] Z Y QB X:=(λA env s I=>wpAny_allTrue_Or_nil (λz_ k_=>k_ Y I Step.refl h))
theorem aM1{e:Expr}{es:List Expr}(h:Tst g F e Z Y (λb zs=>(b=true->F7 g F .And es Z zs QB X)/\(b=false->QB false zs)) X):F7 g F .And (e::es) Z Y QB X:=(λA env s I=>
 wpAny_allTrue_And_cons (A6 (h A env s I) (λb sv zs I1 st1 h1=>by
  cases b with
  | true=>exact wpAny_mono ((h1.1 rfl) A env sv I1) (λz_ z_ p=>p.step st1) λz_ z_ p=>p.step st1
  | false=>exact(λz_ k_=>k_ zs I1 st1 (h1.2 rfl))) λz_ z_ p=>p))
theorem an5{e:Expr}{es:List Expr}(h:Tst g F e Z Y (λb zs=>(b=true->QB true zs)/\(b=false->F7 g F .Or es Z zs QB X)) X):F7 g F .Or (e::es) Z Y QB X:=(λA env s I=>
 wpAny_allTrue_Or_cons (A6 (h A env s I) (λb sv zs I1 st1 h1=>by
  cases b with
  | false=>exact wpAny_mono ((h1.2 rfl) A env sv I1) (λz_ z_ p=>p.step st1) λz_ z_ p=>p.step st1
  | true=>exact(λz_ k_=>k_ zs I1 st1 (h1.1 rfl))) λz_ z_ p=>p))
theorem U7{QL:List V->Hp->Prop}(h:QL [] Y):Evs g F [] Z Y QL X:=(λA env s pos I=>⟨wpAny_items_nil (λz_ k_=>k_ [] Y .nil I Step.refl h),rfl⟩)
theorem Q1{e:Expr}{es:List Expr}{QL:List V->Hp->Prop}(h:Ev g F e Z Y (λv zs=>Evs g F es Z zs (λvs Y2=>QL (v::vs) Y2) X) X)
  (hp:∀ env pos,(backTo pos (starEach es env)).any (·.1)=false)
  (he:∀ env,starEach (e::es) env=(false,eval e env)::starEach es env):Evs g F (e::es) Z Y QL X:=(λA env s pos I=>⟨
 wpAny_items_cons (pgo (h A env s I) (λv sv V zs r I1 st1 h1=>K7 (h1 A env sv pos I1).1 (λvs s2 Vs Y2 rs sw st2 q=>
  (λz_ k_=>k_ (V::Vs) Y2 (.cons (r.mono st2.tups) rs) sw (st1.trans st2) q)) λz_ z_ p=>p.step st1) λz_ z_ p=>p) (he env),by rw[he];exact hp env pos⟩)
theorem Sim.push{h:Heap}{o:Obj}(x:Sim g Y h):Sim g Y (h.push o):=x.grow λb o' e=>ag o e
theorem Step.push{fr own:Addr->Prop}{s:Shared}{o:Obj}:Step fr own Y Y s {s with heap:=s.heap.push o}:=Step.grow (tk:=s.toks) λb o' e=>ag o e
theorem u6(h:Heap):h.get? h.objs.size=none:=by
 cases q:h.get? h.objs.size with
 | none=>rfl
 | some o=>exact absurd (aE q) (bE _)
theorem Sim.fresh{h:Heap}(x:Sim g Y h):Y h.objs.size=none:=by
 cases q:Y h.objs.size with
 | none=>rfl
 | some o=>
  have:=(x.objs _ o q).1;refine c6 this.has λob e=>?_
  rw[u6] at e;exact f9 e
theorem ah5{A env s}{vs:List Value}{l:List V}(I:Inv g F A env Z Y s)(r:d5 s.heap vs l)(h:∀ a,Y a=none->Q (.ref a) (upd Y a (.lst l))) :
  l9 g F A env Z Y s Q (.ref s.heap.objs.size) {s with heap:=s.heap.push {cls:=.type "list",data:=.seq vs.toArray}}:=by
 have st:Step (inF A) f2 Y (upd Y s.heap.objs.size (.lst l)) s {s with heap:=s.heap.push {cls:=.type "list",data:=.seq vs.toArray}}:=
  ⟨⟨rfl,rfl⟩,(Step.push (fr:=inF A) (own:=f2) (Y:=Y)).dom,(Step.push (fr:=inF A) (own:=f2) (Y:=Y)).keep,(Step.push (fr:=inF A) (own:=f2) (Y:=Y)).tups,λb o e hY=>by
   rw[d8 _ _ (bb (aE e))];exact hY⟩
 refine(λz_ k_=>k_ _ _ (.ref _) (I.keep st ⟨I.sim.push.stays,λa o e=>?_⟩) st (h _ I.sim.fresh))
 by_cases ha:a=s.heap.objs.size
 ·subst ha
  rw[d3] at e;replace e:=i5 e;subst e;refine⟨⟨vs.toArray,⟨0,an _ rfl⟩,r.mono st.tups⟩,?_⟩;cases q:g.h₀.get? s.heap.objs.size with
  | none=>rfl
  | some o=>have:=I.sim.stays _ _ q;rw[u6] at this;exact f9 this
 ·rw[d8 _ _ ha] at e
  exact(I.sim.push).objs a o e
theorem W3{A env s}{vs:List Value}{l:List V}(I:Inv g F A env Z Y s)(r:d5 s.heap vs l)(h:Q (.tup l) Y) :
  l9 g F A env Z Y s Q (.ref s.heap.objs.size) {s with heap:=s.heap.push {cls:=.type "tuple",data:=.seq vs.toArray}}:=by
 exact(λz_ k_=>k_ _ Y (.tup (vs:=vs.toArray) (n:=0) (an _ rfl) (r.mono (Step.push (fr:=inF A) (own:=f2) (Y:=Y)).tups)) (I.keep Step.push I.sim.push) Step.push h)
theorem an3{es:List Expr}{k:Nat}{pos:Pos}(h:Evs g F es Z Y (λvs zs=>vs.length<=sizeLine/\Q (.tup vs) zs) X):Ev g F (.Tuple es k pos) Z Y Q X:=(λA env s I=>
 wpAny_Tuple (K7 (h A env s pos I).1 (λvs sv Vs zs rs I1 st1 q=>⟨by rw[rs.length];exact q.1,(W3 I1 rs q.2).step st1⟩) λz_ z_ p=>p))
theorem ab7{es:List Expr}{pos:Pos}(h:Evs g F es Z Y (λvs zs=>vs.length<=sizeLine/\∀ a,zs a=none->Q (.ref a) (upd zs a (.lst vs))) X):Ev g F (.List es pos) Z Y Q X:=(λA env s I=>
 wpAny_List (K7 (h A env s pos I).1 (λvs sv Vs zs rs I1 st1 q=>⟨by rw[rs.length];exact q.1,(ah5 I1 rs q.2).step st1⟩) λz_ z_ p=>p))
theorem al8{value slice:Expr}{pos:Pos}(h:Ev g F value Z Y (λa zs=>Ev g F slice Z zs (λb Y2=>Itm g F a b Z Y2 Q X) X) X)
  (hs:∀ o i,subscripted slice false o i=operate [o,i] (getItem o i)):Ev g F (.Subscript value slice pos) Z Y Q X:=(λA env s I=>
 PyProof.Rows.Subscript_ (pgo (h A env s I) (λa sv Va zs ra I1 st1 h1=>pgo (h1 A env sv I1) (λb s2 Vb Y2 rb sw st2 h2=>by
   refine g7 (h2 A env s2 a b sw (ra.mono st2.tups) rb) λT id hT hl hw=>?_
   exact eA hT hl (wpAny_mono hw (λz_ z_ p=>(p.step st2).step st1) λz_ z_ p=>(p.step st2).step st1) (hs a b)) λz_ z_ p=>p.step st1) λz_ z_ p=>p))
theorem am9{l:List V}{k:Int}{j:Nat}{x:V}(hlo : -(2 ^ 63)<=k)(hhi:k<2 ^ 63)(hj:seqIndex? k l.length=some j)(hx:l[j]?=some x)(h:Q x Y):Itm g F (.tup l) (.int k) Z Y Q X:=(λA env s v y I rx ry=>by
 refine l6 rx.ofTup λa vs n q1_ ht r=>?_;subst q1_
 refine c6 ry.ofInt λz_ q1_=>?_;subst q1_
 refine a9 (r.get hx) λw hw rw'=>?_
 refine⟨"tuple",_,⟨_,ht,rfl⟩,PySem.F.slot_tuple_getitem.lookup,PyProof.Rows.getItem_tuple ⟨_,ht,rfl,_,rfl⟩ hlo hhi (j:=j) ?_ (x:=w) ?_ (B8 I rw' h)⟩
 ·rw[<- hj,<- r.length];simp
 ·rw[<- av];exact hw)
theorem ad7{a:Addr}{l:List V}{k:Int}{x:V}(hY:Y a=some (.lst l))(h0:0<=k)(hhi:k<2 ^ 63)(hx:l[k.toNat]?=some x)(h:Q x Y):Itm g F (.ref a) (.int k) Z Y Q X:=(λA env s v y I rx ry=>by
 obtain rfl:=rx.ofRef;refine c6 ry.ofInt λz_ q1_=>?_;subst q1_
 refine a9 ((I.sim.objs a _ hY).1) λvs hp r=>?_
 refine a9 (r.get hx) λw hw rw'=>?_
 exact⟨"list",_,hp.isList.typeIs,slot_list_getitem.lookup,wpAny_getItem_list hp.isList h0 hhi (x:=w) (by rw[<- av];exact hw) (B8 I rw' h)⟩)
end
set_option genCtorIdx false
inductive Flo where
 | next | brk | cont
 | ret (v:V)
set_option genCtorIdx true
inductive FloRep(h:Heap):Flow->Flo->Prop
 | next:FloRep h .next .next
 | brk:FloRep h .brk .brk
 | cont:FloRep h .cont .cont
 | ret {v:Value} {V:V}:Rep h v V->FloRep h (.ret v) (.ret V)
abbrev d6:=Flo->List (Option V)->Hp->Prop
abbrev j3:=Str->List (Option V)->Hp->Prop
def H8(g:G)(F:Blk)(A:Around)(env:Env)(Y:Hp)(s:Shared)(Q:d6)(f:Flow)(s':Shared):Prop:=
 ∀ P_:Prop,(∀ (f':Flo) (Z':List (Option V)) (Y':Hp) (r:FloRep s'.heap f f') (i:Inv g F A env Z' Y' s') (y:Step (inF A) (i9 env) Y Y' s s') (q:Q f' Z' Y'),P_)->P_
def A4(g:G)(F:Blk)(A:Around)(env:Env)(Y:Hp)(s:Shared)(X:j3)(e:Value)(s':Shared):Prop:=
 ∀ P_:Prop,(∀ (x:Str) (Z':List (Option V)) (Y':Hp) (f:Fly g A e x s.heap Y' s'.heap) (i:Inv g F A env Z' Y' s') (y:Step (inF A) (i9 env) Y Y' s s') (q:X x Z' Y'),P_)->P_
theorem A4.no{g F A env Y s v s'}{P:Prop}(p:A4 g F A env Y s (λz_ z_ z_=>False) v s'):P:=p _ λz_ z_ z_ z_ z_ z_ q=>q.elim
theorem H8.step{g F A env Y zs s sv Q v s'}(x:Step (inF A) (i9 env) Y zs s sv)(p:H8 g F A env zs sv Q v s'):H8 g F A env Y s Q v s':=
 by refine p _ ?_;clear p;rintro V Z' Y' r i y q;exact(λz_ k_=>k_ V Z' Y' r i (x.trans y) q)
theorem A4.step{g F A env Y zs s sv X v s'}(x:Step (inF A) (i9 env) Y zs s sv)(p:A4 g F A env zs sv X v s'):A4 g F A env Y s X v s':=
 by refine p _ ?_;clear p;rintro V Z' Y' r i y q;exact(λz_ k_=>k_ V Z' Y' (r.step x) i (x.trans y) q)
theorem k9.toS{g F A env Z Y s v s'}{X:j3}(p:k9 g F A env Z Y s (λx Y'=>X x Z Y') v s'):A4 g F A env Y s X v s':=
 by refine p _ ?_;clear p;rintro x Y' r i y q;exact(λz_ k_=>k_ x Z Y' r i (y.mono (λz_ h=>h.elim)) q)
def Exs(g:G)(F:Blk)(ss:List Stmt)(Z:List (Option V))(Y:Hp)(Q:d6)(X:j3):Prop:=
 ∀ A env s,Inv g F A env Z Y s->wpAny (model g.prog g.w) A (execs ss env) (H8 g F A env Y s Q) (A4 g F A env Y s X) s
def Ex(g:G)(F:Blk)(st:Stmt)(Z:List (Option V))(Y:Hp)(Q:d6)(X:j3):Prop:=
 ∀ A env s,Inv g F A env Z Y s->wpAny (model g.prog g.w) A (exec st env) (H8 g F A env Y s Q) (A4 g F A env Y s X) s
theorem aN8{l:List Str}(hn:l.Nodup){i j:Nat}{x:Str}(hi:l[i]?=some x)(hj:l[j]?=some x):i=j:=by
 obtain⟨hi',e1⟩:=aj.mp hi;obtain⟨hj',e2⟩:=aj.mp hj;exact(List.getElem_inj hn).mp (e1.trans e2.symm)
section
variable{g:G}{F:Blk}{Z:List (Option V)}{Y:Hp}{Q:d6}{X:j3}
theorem aK5{h h':Heap}{c:Addr}{o:Obj}(ho:h.get? c=some o)(hd:∀ vs n,o.data≠.seq vs n)(hs:Heap.SameBut c h h'):l8 h h':=λb vs n e=>
 (hs.2 b λq=>hd vs n (congrArg Obj.data (Option.some.inj ((ho.symm.trans (congrArg h.get? q.symm)).trans e)))).trans e
theorem N5{h h':Heap}{c:Addr}{m:Str->Option Value}(hn:h.Ns c m)(hs:Heap.SameBut c h h'):l8 h h':=by
 refine l6 hn λo es ep ho hd z_=>?_
 exact aK5 ho (λz_ z_ e=>Data.noConfusion (hd.symm.trans e)) hs
theorem aD1{h h':Heap}{c:Addr}{r:Option Value}(hn:h.IsCell c r)(hs:Heap.SameBut c h h'):l8 h h':=by
 refine a9 hn λo ho hd=>?_
 exact aK5 ho (λz_ z_ e=>Data.noConfusion (hd.symm.trans e)) hs
theorem G6{A:Around}{env:Env}{s:Shared}{v:Value}{V:Internal.V}{i:Nat}{x:Str}{w:Option Internal.V}{QU:Unit->Shared->Prop}{E:Value->Shared->Prop}(I:Inv g F A env Z Y s)(hx:F.vars[i]?=some x)(hw:Z[i]?=some w)
  (r:Rep s.heap v V) (h:∀ s',Inv g F A env (Z.set i (some V)) Y s'->Step (inF A) (i9 env) Y Y s s'->QU () s'):wpAny (model g.prog g.w) A (storeName env x v) QU E s:=by
 have hnd:=I.nd;refine a9 I.loc.ns λm hn hm=>?_
 have get_set:∀ j,∀ u:Option Internal.V,(Z.set i (some V))[j]?=some u->(i=j/\u=some V)∨(i≠j/\Z[j]?=some u):=λj u hj=>by
  by_cases e:i=j
  ·subst e
   rw[dU (aj.mp hw).1] at hj;exact .inl ⟨rfl,(Option.some.inj hj).symm⟩
  ·rw[eE e] at hj
   exact .inr ⟨e,hj⟩
 rcases hm i x _ hx hw with ⟨hk,_⟩ | ⟨hk,c,r0,hc,hcell,_⟩
 ·refine wpAny_storeName_local hk hn (λh' hn' hs'=>?_) (by rw[I.fn];rfl)
  have st:Step (inF A) (i9 env) Y Y s {s with heap:=h',toks:=s.toks+1}:=by
   refine l6 (id hn') λo' es' ep' ho' hd' z_=>?_
   refine⟨⟨rfl,rfl⟩,λb o e=>?_,λb o e hY ho=>⟨o,(hs'.2 b λq=>ho (.inl q)).trans e,.inl rfl⟩,N5 hn hs',λz_ z_ z_ q=>q⟩
   by_cases hb:b=env.locals
   ·subst hb
    exact⟨o',ho',λz_=>⟨_,_,hd'⟩⟩
   ·exact⟨o,(hs'.2 b hb).trans e,id⟩
  refine h _ ?_ st
  ·have tu:l8 s.heap h':=N5 hn hs'
   have ne:∀ a o,Y a=some o->a≠env.locals:=λa o e q=>by rw[q,I.loc.free _ (.inl rfl)] at e;exact f9 e
   refine⟨I.scope,I.fn,I.glob,I.bltn,I.room,I.units,I.quiet,⟨λb o e=>?_,λa o e=>⟨(I.sim.objs a o e).1.keep tu λob eb=>(hs'.2 a (ne a o e)).trans eb,(I.sim.objs a o e).2⟩⟩,
    ⟨by rw[bt];exact I.loc.len,⟨_,hn',λj y u hj hu=>?_⟩,I.loc.free,λy c hc=>?_,I.loc.apart,I.loc.other⟩,I.base,I.nd,I.frs.step st⟩
   ·exact(hs'.2 b (λq=>by rw[q,I.base _ (.inl rfl)] at e;exact f9 e)).trans (I.sim.stays b o e)
   ·rcases get_set j u hu with ⟨rfl,rfl⟩ | ⟨hne,hu'⟩
    ·rw[hx] at hj;replace hj:=i5 hj;subst hj
     exact .inl ⟨hk,λW hW=>by replace hW:=i5 hW;subst hW;exact⟨v,if_pos rfl,r.mono tu⟩⟩
    ·have hyx:y≠x:=λq=>hne (aN8 hnd hx (q▸hj))
     rcases hm j y u hj hu' with ⟨hk',e'⟩ | ⟨hk',c,r0,hc,hcell,e'⟩
     ·exact .inl ⟨hk',λW hW=>by refine a9 (e' W hW) λr1 a1 a2=>?_;exact⟨r1,by simpa[hyx] using a1,a2.mono tu⟩⟩
     ·exact .inr ⟨hk',c,r0,hc,hcell.sameBut hs' (I.loc.other _ _ hc),λW hW=>by refine a9 (e' W hW) λr1 a1 a2=>?_;exact⟨r1,a1,a2.mono tu⟩⟩
   ·refine c6 (I.loc.live y c hc) λv hv=>?_
    exact⟨v,hv.sameBut hs' (I.loc.other y c hc)⟩
 ·refine wpAny_storeName_cell I.fn hk hc hcell λh' hc' hs'=>?_
  have st:Step (inF A) (i9 env) Y Y s {s with heap:=h'}:=by
   refine a9 (id hcell) λoc hoc hdc=>?_
   refine a9 (id hc') λo' ho' hd'=>?_
   refine⟨⟨rfl,rfl⟩,λb o e=>?_,λb o e hY ho=>⟨o,(hs'.2 b λq=>ho (.inr ⟨_,q▸hc⟩)).trans e,.inl rfl⟩,aD1 hcell hs',λz_ z_ z_ q=>q⟩
   by_cases hb:b=c
   ·subst hb
    exact⟨o',ho',λq=>by refine p9 q λes ep q=>?_;rw[hoc] at e;replace e:=i5 e;subst e;rw[hdc] at q;cases q⟩
   ·exact⟨o,(hs'.2 b hb).trans e,id⟩
  refine h _ ?_ st
  ·have tu:l8 s.heap h':=aD1 hcell hs'
   have ne:∀ a o,Y a=some o->a≠c:=λa o e q=>by rw[q,I.loc.free _ (.inr ⟨_,hc⟩)] at e;exact f9 e
   refine⟨I.scope,I.fn,I.glob,I.bltn,I.room,I.units,I.quiet,⟨λb o e=>?_,λa o e=>⟨(I.sim.objs a o e).1.keep tu λob eb=>(hs'.2 a (ne a o e)).trans eb,(I.sim.objs a o e).2⟩⟩,
    ⟨by rw[bt];exact I.loc.len,⟨m,hn.sameBut hs' (Ne.symm (I.loc.other _ _ hc)),λj y u hj hu=>?_⟩,I.loc.free,λy' c' hc''=>?_,I.loc.apart,I.loc.other⟩,I.base,I.nd,I.frs.step st⟩
   ·exact(hs'.2 b (λq=>by rw[q,I.base _ (.inr ⟨_,hc⟩)] at e;exact f9 e)).trans (I.sim.stays b o e)
   ·rcases get_set j u hu with ⟨rfl,rfl⟩ | ⟨hne,hu'⟩
    ·rw[hx] at hj;replace hj:=i5 hj;subst hj
     exact .inr ⟨hk,c,_,hc,hc',λW hW=>by replace hW:=i5 hW;subst hW;exact⟨v,rfl,r.mono tu⟩⟩
    ·have hyx:y≠x:=λq=>hne (aN8 hnd hx (q▸hj))
     rcases hm j y u hj hu' with ⟨hk',e'⟩ | ⟨hk',c2,r2,hc2,hcell2,e'⟩
     ·exact .inl ⟨hk',λW hW=>by refine a9 (e' W hW) λr1 a1 a2=>?_;exact⟨r1,a1,a2.mono tu⟩⟩
     ·exact .inr ⟨hk',c2,r2,hc2,hcell2.sameBut hs' (λq=>hyx (I.loc.apart _ _ _ hc2 (q▸hc))),λW hW=>by refine a9 (e' W hW) λr1 a1 a2=>?_;exact⟨r1,a1,a2.mono tu⟩⟩
   ·by_cases q:c'=c
    ·exact⟨_,q▸hc'⟩
    ·refine c6 (I.loc.live y' c' hc'') λv hv=>?_
     exact⟨v,hv.sameBut hs' q⟩
theorem Exs.mono{ss:List Stmt}{Q':d6}(h:Exs g F ss Z Y Q X)(k:∀ f Z Y,Q f Z Y->Q' f Z Y):Exs g F ss Z Y Q' X:=(λA env s I=>
 wpAny_mono (h A env s I) (λz_ z_ p=>by refine p _ ?_;clear p;rintro V Z' Y' r i y q;exact(λz_ k_=>k_ V Z' Y' r i y (k _ _ _ q))) λz_ z_ p=>p)
theorem Exs.sub{ss:List Stmt}{Y':Hp}(h:Exs g F ss Z Y' Q X)(k:Sub Y' Y):Exs g F ss Z Y Q X:=(λA env s I=>by
 have st:Step (inF A) f2 Y Y' s s:=Step.refl.sub k;have st':Step (inF A) (i9 env) Y Y' s s:=Step.refl.sub k;exact wpAny_mono (h A env s (I.keep st (I.sim.sub k))) (λz_ z_ p=>p.step st') λz_ z_ p=>p.step st')
noncomputable def ce3(g:G)(F:Blk)(rest:List Stmt)(Q:d6)(X:j3):d6:=λf Z Y=>match f with
 | .next=>Exs g F rest Z Y Q X
 | f=>Q f Z Y
theorem bS4(h:Q .next Z Y):Exs g F [] Z Y Q X:=(λA env s I=>wpAny_execs_nil (λz_ k_=>k_ .next Z Y .next I Step.refl h))
theorem ci3{st:Stmt}{rest:List Stmt}(h:Ex g F st Z Y (ce3 g F rest Q X) X):Exs g F (st::rest) Z Y Q X:=(λA env s I=>
 wpAny_execs_cons (wpAny_mono (h A env s I) (λf sv p0=>by
  refine p0 _ ?_;clear p0;rintro f' Z₁ zs r I1 st1 q;cases r with
  | next=>exact wpAny_mono ((show Exs g F rest Z₁ zs Q X from q) A env sv I1) (λz_ z_ p=>p.step st1) λz_ z_ p=>p.step st1
  | brk=>exact(λz_ k_=>k_ .brk Z₁ zs .brk I1 st1 q)
  | cont=>exact(λz_ k_=>k_ .cont Z₁ zs .cont I1 st1 q)
  | ret r=>exact(λz_ k_=>k_ (.ret _) Z₁ zs (.ret r) I1 st1 q)) λz_ z_ p=>p))
theorem aW0{pos:Pos}(h:Q .brk Z Y):Ex g F (.Break pos) Z Y Q X:=(λA env s I=>wpAny_Break (λz_ k_=>k_ .brk Z Y .brk I Step.refl h))
theorem aV7{e:Expr}{pos:Pos}(h:Ev g F e Z Y (λv zs=>Q (.ret v) Z zs) (λx zs=>X x Z zs)):Ex g F (.Return (some e) pos) Z Y Q X:=(λA env s I=>
 wpAny_Return_some (pgo (h A env s I) (λv sv V zs r I1 st1 q=>(λz_ k_=>k_ (.ret V) Z zs (.ret r) I1 (st1.mono λz_ h=>h.elim) q)) λz_ z_ p=>p.toS))
theorem bt5{test:Expr}{body orelse:List Stmt}{pos:Pos}(h:Tst g F test Z Y (λb zs=>(b=true->Exs g F body Z zs Q X)/\(b=false->Exs g F orelse Z zs Q X)) (λx zs=>X x Z zs)):Ex g F (.If test body orelse pos) Z Y Q X:=(λA env s I=>
 wpAny_If (A6 (h A env s I) (λb sv zs I1 st1 q=>by
  have st':Step (inF A) (i9 env) Y zs s sv:=st1.mono λz_ h=>h.elim
  cases b with
  | true=>exact wpAny_mono ((q.1 rfl) A env sv I1) (λz_ z_ p=>p.step st') λz_ z_ p=>p.step st'
  | false=>exact wpAny_mono ((q.2 rfl) A env sv I1) (λz_ z_ p=>p.step st') λz_ z_ p=>p.step st') λz_ z_ p=>p.toS))
end
def Cl(g:G)(F:Blk)(f:Value)(as:List V)(Z:List (Option V))(Y:Hp)(Q:V->Hp->Prop)(X:Str->Hp->Prop):Prop:=
 ∀ A env s vs,Inv g F A env Z Y s->d5 s.heap vs as->wpAny (model g.prog g.w) A (call f vs) (l9 g F A env Z Y s Q) (k9 g F A env Z Y s X) s
def bo5(g:G)(A:Around)(Y:Hp)(s:Shared)(Q:V->Hp->Prop)(v:Value)(s':Shared):Prop:=
 ∀ P_:Prop,(∀ (V:V) (Y':Hp) (r:Rep s'.heap v V) (i:Sim g Y' s'.heap) (y:Step (inF A) f2 Y Y' s s') (q:Q V Y'),P_)->P_
def bD1(g:G)(A:Around)(Y:Hp)(s:Shared)(X:Str->Hp->Prop)(e:Value)(s':Shared):Prop:=
 ∀ P_:Prop,(∀ (x:Str) (Y':Hp) (f:Fly g A e x s.heap Y' s'.heap) (i:Sim g Y' s'.heap) (y:Step (inF A) f2 Y Y' s s') (q:X x Y'),P_)->P_
def c7(g:G)(d:Nat)(q:Bool)(f:Str)(as:List V)(Y:Hp)(Q:V->Hp->Prop)(X:Str->Hp->Prop):Prop:=
 ∀ A s vs a,g.mg f=some (.ref a)->A.depth+d<recursionLimit->A.units+8*d<cLine->(q=true->A.handled=none)->Sim g Y s.heap->FrL g A Y s.heap->d5 s.heap vs as->
  codeAny (model g.prog g.w) A (.call (.ref a) ⟨vs,[]⟩) (λr s'=>match r with
   | .ok (.ret v)=>bo5 g A Y s Q v s'
   | .ok _=>False
   | .error e=>bD1 g A Y s X e s') s
def FnO(g:G)(f:Str)(params:Arguments)(body:List Stmt)(scope:Scope):Prop:=
 ∀ P_:Prop,(∀ (a:Addr) (o:Obj) (pm cd doc) (h1:g.mg f=some (.ref a)) (h2:g.h₀.get? a=some o) (h3:o.data=.func (bH f params body scope pm cd doc)) (h4:g.h₀.CodeRec cd f),P_)->P_
structure FnAt(g:G)(f:Str)(params:Arguments)(body:List Stmt)(scope:Scope):Prop where
 at':FnO g f params body scope
section
variable{g:G}{F:Blk}{Z:List (Option V)}{Y:Hp}{Q:V->Hp->Prop}{X:Str->Hp->Prop}
theorem x9{M:Model}{A:Around}{E:Value->Shared->Prop}{s:Shared}{f:Value}:∀ {args:List (Bool×Sem Value)} {Q:Args->Shared->Prop},args.any (·.1)=false->
  wpAny M A (spliced args) (λvs s'=>Q ⟨vs,[]⟩ s') E s->wpAny M A (evalArgs f true args []) Q E s
 | [],Q,_,h=>by
  unfold evalArgs;show wpAny M A (spliced [] >>= _) Q E s;refine wpAny_bind (wpAny_mono h (λvs s' h'=>?_) λz_ z_ x=>x)
  refine wpAny_holding ?_;exact wpAny_bind (wpAny_pure (wpAny_bind (wpAny_pure (wpAny_pure h'))))
 | (true,x)::rest,Q,hp,h=>by simp at hp
 | (false,x)::rest,Q,hp,h=>Calls.evalArgs_plain h
theorem ap4{x:Str}{pos:Pos}{fv:Value}{V:Internal.V}(hk:F.sc.names.lookup x=some .globalImplicit)(hv:g.mg x=some fv)(hr:∀ h,Rep h fv V)(h:Q V Y)(hd:(x==("__debug__" : Str))=false) :
  Ev g F (.Name x pos) Z Y Q X:=(λA env s I=>
 Calls.Name_function_global I.fn (by show env.scope.names.lookup x=_;rw[I.scope];exact hk) (aW (by rw[I.glob];exact g.ns.keeps I.sim.stays) hv (B8 I (hr _) h)) hd)
theorem bi5{x:Str}{np pos:Pos}{args:List Expr}{id:String}(hk:F.sc.names.lookup x=some .globalImplicit)(hg:g.mg x=none)(hb:g.mb x=some (.builtin id))
  (h:Evs g F args Z Y (λvs zs=>Cl g F (.builtin id) vs Z zs Q X) X) (hd:(x==("__debug__" : Str))=false):Ev g F (.Call (.Name x np) args [] pos) Z Y Q X:=(λA env s I=>by
 refine wpAny_Call_ofName (Calls.Name_function_global I.fn (by show env.scope.names.lookup x=_;rw[I.scope];exact hk) (aK (by rw[I.glob];exact g.ns.keeps I.sim.stays) hg (by rw[I.bltn];exact g.nb.keeps I.sim.stays) hb ?_) hd)
 refine c5 (h A env s pos I) λhw hp=>?_
 refine bh hp (x9 hp (wpAny_mono hw (λvs sv p_=>?_) λz_ z_ p=>p))
 refine p_ _ ?_;clear p_;rintro Vs zs rs I1 st1 q;exact wpAny_mono (q A env sv vs I1 rs) (λz_ z_ p=>p.step st1) λz_ z_ p=>p.step st1)
theorem aT4{x:Str}{np pos:Pos}{args:List Expr}{id:String}(hk:F.sc.names.lookup x=some .globalImplicit)(hg:g.mg x=none)(hb:g.mb x=some (.type id))
  (h:Evs g F args Z Y (λvs zs=>Cl g F (.type id) vs Z zs Q X) X) (hd:(x==("__debug__" : Str))=false):Ev g F (.Call (.Name x np) args [] pos) Z Y Q X:=(λA env s I=>by
 refine wpAny_Call_ofName (Calls.Name_function_global I.fn (by show env.scope.names.lookup x=_;rw[I.scope];exact hk) (aK (by rw[I.glob];exact g.ns.keeps I.sim.stays) hg (by rw[I.bltn];exact g.nb.keeps I.sim.stays) hb ?_) hd)
 refine c5 (h A env s pos I) λhw hp=>?_
 refine callWith_excType hp (x9 hp (wpAny_mono hw (λvs sv p_=>?_) λz_ z_ p=>p))
 refine p_ _ ?_;clear p_;rintro Vs zs rs I1 st1 q;exact wpAny_mono (q A env sv vs I1 rs) (λz_ z_ p=>p.step st1) λz_ z_ p=>p.step st1)
theorem bw8{x:Str}{np pos:Pos}{args:List Expr}{params:Arguments}{body:List Stmt}{scope:Scope}(hf:FnAt g x params body scope)(hk:F.sc.names.lookup x=some .globalImplicit)
  (h:Evs g F args Z Y (λvs zs=>c7 g F.d F.q x vs zs Q X) X) (hd:(x==("__debug__" : Str))=false):Ev g F (.Call (.Name x np) args [] pos) Z Y Q X:=(λA env s I=>by
 refine hf.at' _ ?_;rintro a o pm cd doc hm ho hdat hcd;refine wpAny_Call_ofName (Calls.Name_function_global I.fn (by show env.scope.names.lookup x=_;rw[I.scope];exact hk) (aW (by rw[I.glob];exact g.ns.keeps I.sim.stays) hm ?_) hd)
 refine c5 (h A env s pos I) λhw hp=>?_
 refine Calls.callWith_function (o:=o) (x9 hp (wpAny_mono hw (λvs sv p_=>p_ _ λVs zs rs I1 st1 q=>⟨⟨I1.sim.stays _ _ ho,hdat⟩,?_⟩) λz_ z_ p=>p))
 refine wpAny_call (codeAny_mono (q A sv vs a hm I1.room I1.units I1.quiet I1.sim I1.frs.l rs) λr s2 h2=>?_)
 cases r with
 | ok fl=>
  cases fl with
  | ret v=>
   refine h2 _ ?_;clear h2;rintro V Y' r sm st q';exact(λz_ k_=>k_ V Y' r (I1.keep st sm) (st1.trans st) q')
  | _=>exact h2.elim
 | error e=>
  refine h2 _ ?_;clear h2;rintro x Y' r sm st q';exact(λz_ k_=>k_ x Y' (r.step st1) (I1.keep st sm) (st1.trans st) q'))
noncomputable def ae7(params:Arguments)(scope:Scope)(vars:List Str):Bool:=
 decide vars.Nodup&&decide (params.args.map (·.arg)=vars.take params.args.length)&&decide (params.args.length<=vars.length) &&
 vars.all (λx=>scope.names.lookup x==some .local||scope.names.lookup x==some .cell) &&
 (scope.kind==.function) && !scope.isCoroutine && !scope.isGenerator
theorem aR4{k:Str->Option NameKind}{ps:List Str}:∀ {vs:List Value} {m:Str->Option Value} {x:Str},k x=some .local->ps.Nodup->ps.length=vs.length->
  (∀ i:Nat,ps[i]?=some x->bindL k (ps.zip vs) m x=vs[i]?)/\(x∉ps->bindL k (ps.zip vs) m x=m x):=by
 induction ps with
 | nil=>intro vs m x hk hn hl;exact⟨(λi h=>(by exact f9 h)),λz_=>rfl⟩
 | cons p ps ih0=>
  intro vs m x hk hn hl;cases vs with
  | nil=>cases hl
  | cons v vs=>
   have ih:=@ih0 vs (if k p=some .local then λy=>if y=p then some v else m y else m) x hk (bJ.mp hn).2 (Nat.succ.inj hl)
   refine⟨λi hi=>?_,λhx=>?_⟩
   ·cases i with
    | zero=>
     replace hi:=i5 hi;subst hi
     refine(ih.2 (bJ.mp hn).1).trans ?_;rw[if_pos hk,if_pos rfl];rfl
    | succ i=>exact ih.1 i hi
   ·refine(ih.2 λq=>hx (aG _ q)).trans ?_
    have hne:x≠p:=λq=>hx (by rw[q];exact be)
    split
    ·exact if_neg hne
    ·rfl
theorem bh5{k:Str->Option NameKind}{ps:List Str}:∀ {vs:List Value} {m:Str->Option Value} {x:Str},k x≠some .local->ps.Nodup->ps.length=vs.length->
  (∀ i:Nat,ps[i]?=some x->bindC k (ps.zip vs) m x=vs[i]?)/\(x∉ps->bindC k (ps.zip vs) m x=m x):=by
 induction ps with
 | nil=>intro vs m x hk hn hl;exact⟨(λi h=>(by exact f9 h)),λz_=>rfl⟩
 | cons p ps ih0=>
  intro vs m x hk hn hl;cases vs with
  | nil=>cases hl
  | cons v vs=>
   have ih:=@ih0 vs (if k p=some .local then m else λy=>if y=p then some v else m y) x hk (bJ.mp hn).2 (Nat.succ.inj hl)
   refine⟨λi hi=>?_,λhx=>?_⟩
   ·cases i with
    | zero=>
     replace hi:=i5 hi;subst hi
     refine(ih.2 (bJ.mp hn).1).trans ?_;rw[if_neg hk,if_pos rfl];rfl
    | succ i=>exact ih.1 i hi
   ·refine(ih.2 λq=>hx (aG _ q)).trans ?_
    have hne:x≠p:=λq=>hx (by rw[q];exact be)
    split
    ·rfl
    ·exact if_neg hne
theorem aN7{x:Str}(names:List (Str×NameKind)):∀ (n:Nat) (acc:List (Str×Addr)),names.lookup x=some .cell∨(acc.lookup x).isSome=true->((cellsFrom n names acc).lookup x).isSome=true:=by
 induction names with
 | nil=>intro n acc h;exact h.elim (λe=>by exact f9 e) id
 | cons p r ih=>
  obtain⟨y,k⟩:=p;intro n acc h;have e0:cellsFrom n ((y,k)::r) acc=if (k==.cell)=true then cellsFrom (n+1) r ((y,n)::acc) else cellsFrom n r acc:=rfl
  rw[e0];by_cases hk:(k==.cell)=true
  ·rw[if_pos hk]
   refine ih (n+1) ((y,n)::acc) ?_;by_cases hy:(x==y)=true
   ·exact .inr (by rw[aR,hy];rfl)
   ·have hy':=Bool.not_eq_true _▸hy
    refine h.imp (λe=>?_) λe=>?_
    ·rw[aR,hy'] at e;exact e
    ·rw[aR,hy'];exact e
  ·rw[if_neg hk]
   refine ih n acc ?_;by_cases hy:(x==y)=true
   ·refine .inr (h.elim (λe=>?_) id)
    rw[aR,hy] at e;exact absurd (by rw[Option.some.inj e];rfl) hk
   ·have hy':=Bool.not_eq_true _▸hy
    refine h.imp (λe=>?_) id
    rw[aR,hy'] at e;exact e
end
noncomputable def x7(h:Heap)(S:List Addr):Heap:={h with objs:=h.objs.mapIdx λi o=>if i∈S then{o with data:=.freed} else o}
theorem J1{h:Heap}{S:List Addr}{b:Addr}(hb:b∈S):(x7 h S).get? b=none:=by
 cases q:(x7 h S).get? b with
 | none=>rfl
 | some o=>
  obtain⟨e,f⟩:=bV.mp q;simp only[x7,cM] at e
  refine a9 (aA.mp e) λo' z_ e=>?_
  rw[if_pos hb] at e;subst e;cases f
theorem az3{h:Heap}{S:List Addr}{b:Addr}{o:Obj}(e:(x7 h S).get? b=some o):h.get? b=some o:=by
 have hb:b∉S:=λhb=>by rw[J1 hb] at e;exact f9 e
 obtain⟨e,f⟩:=bV.mp e;simp only[x7,cM] at e
 refine a9 (aA.mp e) λo' e' e=>?_
 rw[if_neg hb] at e;subst e;exact bV.mpr ⟨e',f⟩
theorem ae8{h:Heap}{S:List Addr}{b:Addr}{o:Obj}(hb:b∉S)(e:h.get? b=some o):(x7 h S).get? b=some o:=by
 obtain⟨e,f⟩:=bV.mp e;refine bV.mpr ⟨?_,f⟩;simp only[x7,cM]
 rw[e,Option.map_some,if_neg hb]
theorem ao9{g:G}{Y:Hp}{h base:Heap}{l:List Env}(all:∀ e∈l,N9 g Y h e)(hb:∀ e∈l,∀ L,e.frame=some L->base.get? L=none):h.FunFrames base l:=by
 induction l with
 | nil=>trivial
 | cons e l ih=>
  refine(all e (.head _)) _ ?_;rintro L hk hf - - o ho ⟨es,ep,d⟩;exact⟨hk,⟨L,o,hf,hb e (.head _) L hf,ho,λvs q=>by rw[d] at q;cases q⟩,ih (λe he=>all e (.tail _ he)) λe he=>hb e (.tail _ he)⟩
noncomputable def aL1(A:Around)(h h':Heap):Prop:=∀ b o,h.get? b=some o->(∀ vs,o.data≠.fields vs)->∃ o',h'.get? b=some o'/\KO (inF A b) o o'
section
variable{g:G}{A:Around}{env:Env}{own:Addr->Prop}{sx Y:Hp}{sy s:Shared}{e:Value}{x:Str}
def N0(g:G)(A:Around)(own:Addr->Prop)(sx Y:Hp)(sy s:Shared)(h':Heap):Prop:=
 ∀ P_:Prop,(∀ (y:Step (inF A) own sx Y sy {s with heap:=h'}) (m:Sim g Y h') (k:aL1 A s.heap h') (t:l8 s.heap h'),P_)->P_
theorem went{h':Heap}{S:List Addr}(y:Step (inF A) own sx Y sy s)(sm:Sim g Y s.heap)(hk:∀ b o,s.heap.get? b=some o->b∉S->h'.get? b=some o)
  (hS:∀ b∈S,(∃ vs o,s.heap.get? b=some o/\o.data=.fields vs/\sy.heap.get? b=none/\g.h₀.get? b=none/\Y b=none)∨(inF A b/\g.h₀.get? b=none/\Y b=none/\∃ o,s.heap.get? b=some o/\IsD o))
  (hs:∀ b o,s.heap.get? b=some o->(∀ vs,o.data≠.fields vs)->∃ sl,h'.get? b=some {o with slots:=sl}):N0 g A own sx Y sy s h':=by
 have soft:aL1 A s.heap h':=λb o e hn=>by
  by_cases q:b∈S
  ·rcases hS b q with ⟨vs,o',e',d,-⟩ | ⟨hf,-⟩
   ·rw[e] at e';replace e':=i5 e';subst e';exact absurd d (hn vs)
   ·refine c6 (hs b o e hn) λsl e'=>?_;exact⟨_,e',.inr ⟨hf,sl,rfl⟩⟩
  ·exact⟨o,hk b o e q,.inl rfl⟩
 have keep:∀ b o,s.heap.get? b=some o->sy.heap.get? b≠none->∃ o',h'.get? b=some o'/\KO (inF A b) o o':=λb o e hn=>by
  by_cases q:b∈S
  ·rcases hS b q with ⟨_,_,_,_,e',-⟩ | ⟨hf,-,-,o',ho,es,ep,d⟩
   ·exact absurd e' hn
   ·rw[e] at ho;replace ho:=i5 ho;subst ho;exact soft b o e λvs q=>by rw[d] at q;cases q
  ·exact⟨o,hk b o e q,.inl rfl⟩
 have tu:l8 s.heap h':=λb vs n e=>by
  refine hk b _ e λq=>?_
  rcases hS b q with ⟨_,_,e',d,-⟩ | ⟨-,-,-,o',ho,es,ep,d⟩
  ·rw[e] at e';replace e':=i5 e';subst e';cases d
  ·rw[e] at ho;replace ho:=i5 ho;subst ho;cases d
 refine(λz_ k_=>k_ ⟨y.same,λb o e=>?_,λb o e hY ho=>?_,y.tups.trans tu,y.new⟩ ⟨λb o e=>hk b o (sm.stays b o e) λq=>?_,λa o e=>⟨(sm.objs a o e).1.keep tu λob eb=>hk a ob eb λq=>?_,(sm.objs a o e).2⟩⟩ soft tu)
 ·refine a9 (y.dom b o e) λo1 e1 d1=>?_
  obtain⟨o2,e2,k2⟩:=keep b o1 e1 (by rw[e];exact co _)
  exact⟨o2,e2,λh=>by refine p9 (d1 h) λes ep d=>?_;exact⟨es,ep,k2.data.trans d⟩⟩
 ·refine a9 (y.keep b o e hY ho) λo1 e1 k1=>?_
  obtain⟨o2,e2,k2⟩:=keep b o1 e1 (by rw[e];exact co _)
  exact⟨o2,e2,k1.trans k2⟩
 ·rcases hS b q with ⟨_,_,_,_,_,e',_⟩ | ⟨_,e',_⟩<;>(rw[e] at e';exact B5 e')
 ·rcases hS a q with ⟨_,_,_,_,_,_,e'⟩ | ⟨_,_,e',_⟩<;>(rw[e] at e';exact B5 e')
theorem aB5{h':Heap}{S:List Addr}{a C:Addr}{a0 fl:Value}(y:Step (inF A) own sx Y sy s)(sm:Sim g Y s.heap)(he:e=.ref a)(n:sy.heap.get? a=none)(b:g.h₀.get? a=none)(hs:Y a=none)(hx:g.mg x=some (.ref C))
  (hS:∀ b∈S,b≠a->(sy.heap.get? b=none/\g.h₀.get? b=none/\Y b=none)∨∃ o,h'.get? b=some o/\IsD o) (t:h'.TracedAtW (x7 s.heap S) a (.ref C) a0 fl):E5 g e x sy.heap Y h' fl:=by
 obtain⟨oe,vs,T,oT,ts,ho,⟨hc,h0⟩,hd,h1,hbT,hTe,hT,hdT,h3⟩:=t;have key:sy.heap.get? T=none/\g.h₀.get? T=none/\Y T=none:=by
  by_cases q:T∈S
  ·rcases hS T q hTe with r | ⟨o,e1,es,ep,d⟩
   ·exact r
   ·rw[hT] at e1;replace e1:=i5 e1;subst e1;rw[hdT] at d;cases d
  ·have hn:s.heap.get? T=none:=by
    cases e1:s.heap.get? T with
    | none=>rfl
    | some o=>rw[ae8 q e1] at hbT;exact B5 hbT
   refine⟨y.nix hn,?_,?_⟩
   ·cases e1:g.h₀.get? T with
    | none=>rfl
    | some o=>rw[sm.stays _ _ e1] at hn;exact B5 hn
   ·cases e1:Y T with
    | none=>rfl
    | some o=>refine c6 ((sm.objs _ _ e1).1.has) λob e2=>?_;rw[e2] at hn;exact B5 hn
 exact(λz_ k_=>k_ a vs (λz_ k_=>k_ C oe a0 he n b hs ho hc hx hd h0) T oT ts h1 key.1 key.2.1 key.2.2 hTe hT hdT h3)
theorem aX1{e0:Env}(hf:e0.frame=env.frame):noteFrame e env=noteFrame e e0:=by
 unfold noteFrame frameOf;rw[hf]
theorem ae0{L:Addr}{Q:Unit->Shared->Prop}{E:Value->Shared->Prop}(y:Step (inF A) own sx Y sy s)(fs:Frs g A env Y s.heap)(sm:Sim g Y s.heap)(f:Fly g A e x sy.heap Y s.heap)(hL:env.frame=some L)
  (k:∀ h',N0 g A own sx Y sy s h'->E5 g e x sy.heap Y h' (rawInt L)->Q () {s with heap:=h'}):wpAny (model g.prog g.w) A (noteFrame e env) Q E s:=by
 refine fs _ ?_;clear fs;rintro e0 l ha hf all;rw[aX1 hf];have hL':e0.frame=some L:=hf.trans hL;have fin:∀ b∈(e0::l).filterMap (·.frame),inF A b/\g.h₀.get? b=none/\Y b=none/\∃ o,s.heap.get? b=some o/\IsD o:=λb hb=>by
  refine a9 (dc.mp hb) λv hv hb=>?_
  refine(all v hv) _ ?_;rintro L'-h1 h2 h3 o h4 h5;rw[hb] at h1;replace h1:=i5 h1;subst h1;exact⟨⟨_,v,ha,hv,hb⟩,h2,h3,o,h4,h5⟩
 have dat:∀ {h':Heap} {b:Addr},b∈(e0::l).filterMap (·.frame)->(∀ b o,s.heap.get? b=some o->(∀ vs,o.data≠.fields vs)->∃ sl,h'.get? b=some {o with slots:=sl})->∃ o,h'.get? b=some o/\IsD o:=fun{h' b} hb hs=>by
  obtain⟨-,-,-,o,ho,es,ep,d⟩:=fin b hb;obtain⟨sl,e1⟩:=hs b o ho λvs q=>by rw[d] at q;cases q
  exact⟨_,e1,es,ep,d⟩
 cases f with
 | made a vs z h1=>
  refine z _ ?_;clear z;rintro C oe a0 rfl n b hs ho hc hx hd h0;have stay:(x7 s.heap (a::(e0::l).filterMap (·.frame))).StaysIn s.heap:=λz_ z_ e=>az3 e
  unfold noteFrame;simp only[hL']
  refine wpAny_bind (wpAny_field ho hd h1 ?_);rw[if_neg (by decide)]
  refine wpAny_entryW ha (ao9 all λv hv L' h=>J1 (.tail _ (dc.mpr ⟨v,hv,h⟩))) hL' ho stay (J1 (.head _)) hd (aX.mp h1).1 h0 λh' N=>?_
  refine R6 N λk1 z_ k3 k4=>?_
  rw[hc] at k3;refine k h' (went (S:=a::(e0::l).filterMap (·.frame)) y sm (λb o e q=>k1 b o (ae8 q e)) (λc hc'=>?_) k4) (aB5 y sm rfl n b hs hx (λc hc' ne=>?_) k3)
  ·rcases am.mp hc' with rfl | hc'
   ·exact .inl ⟨vs,oe,ho,hd,n,b,hs⟩
   ·exact .inr (fin c hc')
  ·rcases am.mp hc' with rfl | hc'
   ·exact absurd rfl ne
   ·exact .inr (dat hc' k4)
 | on fl z hfl=>
  refine z _ ?_;clear z;rintro a vs z T oT ts h1 nT bT sT ne hT dT h3;refine z _ ?_;clear z;rintro C oe a0 rfl n b hs ho hc hx hd h0;have stay:(x7 s.heap (a::T::(e0::l).filterMap (·.frame))).StaysIn s.heap:=λz_ z_ e=>az3 e
  rcases hfl with rfl | ⟨l',v,L',e1,e2,rfl⟩
  ·refine wpAny_noteFrame_onW (base:=x7 s.heap (a::T::(e0::l).filterMap (·.frame))) (cls:=.ref C) (a0:=a0) ha (ao9 all λv hv L' h=>J1 (.tail _ (.tail _ (dc.mpr ⟨v,hv,h⟩)))) hL'
    ⟨oe,vs,T,oT,ts,ho,⟨hc,h0⟩,hd,h1,J1 (.tail _ (.head _)),ne,hT,dT,h3⟩ stay (J1 (.head _)) λh' N=>?_
   refine R6 N λk1 z_ k3 k4=>?_
   refine k h' (went (S:=a::T::(e0::l).filterMap (·.frame)) y sm (λb o e q=>k1 b o (ae8 q e)) (λc hc'=>?_) k4) (aB5 y sm rfl n b hs hx (λc hc' ne'=>?_) k3)
   ·rcases am.mp hc' with rfl | hc'
    ·exact .inl ⟨vs,oe,ho,hd,n,b,hs⟩
    ·rcases am.mp hc' with rfl | hc'
     ·exact .inl ⟨ts,oT,hT,dT,nT,bT,sT⟩
     ·exact .inr (fin c hc')
   ·rcases am.mp hc' with rfl | hc'
    ·exact absurd rfl ne'
    ·rcases am.mp hc' with rfl | hc'
     ·exact .inl ⟨nT,bT,sT⟩
     ·exact .inr (dat hc' k4)
  ·rw[ha] at e1;cases e1
   rw[hL'] at e2;replace e2:=i5 e2;subst e2;refine wpAny_noteFrame_againW (base:=x7 s.heap [a,T]) (cls:=.ref C) (a0:=a0) hL' ⟨oe,vs,T,oT,ts,ho,⟨hc,h0⟩,hd,h1,J1 (.tail _ (.head _)),ne,hT,dT,h3⟩ ?_;exact k s.heap (λz_ k_=>k_ y sm (λb o e z_=>⟨o,e,.inl rfl⟩) (λz_ z_ z_ e=>e)) (λz_ k_=>k_ a vs (λz_ k_=>k_ C oe a0 rfl n b hs ho hc hx hd h0) T oT ts h1 nT bT sT ne hT dT h3)
theorem N8{Q:Unit->Shared->Prop}{E:Value->Shared->Prop}{fl:Value}{fo:Option Addr}(y:Step (inF A) own sx Y sy s)(sm:Sim g Y s.heap)(f:E5 g e x sy.heap Y s.heap fl)
  (k:∀ h',N0 g A own sx Y sy s h'->E5 g e x sy.heap Y h' (fo.elim Value.none λf=>rawInt f)->Q () {s with heap:=h'}):wpAny (model g.prog g.w) A (setFlight e fo) Q E s:=by
 refine f _ ?_;clear f;rintro a vs z T oT ts h1 nT bT sT ne hT dT h3;refine z _ ?_;clear z;rintro C oe a0 rfl n b hs ho hc hx hd h0;have hsz3:3<ts.size:=(aX.mp h3).1;have other:∀ b,b≠T->(s.heap.update T (Obj.mapFields (·.setIfInBounds 3 (fo.elim Value.none λf=>rawInt f)))).get? b=s.heap.get? b:=λb hb=>cG _ _ (Ne.symm hb)
 unfold setFlight;refine wpAny_bind (wpAny_field ho hd h1 ?_);rw[if_pos (show(Value.ref T != Value.none)=true from by simp)]
 refine wpAny_setField hT dT hsz3 (k _ (went (S:=[T]) y sm (λb o e q=>(other b λr=>q (by rw[r];exact .head _)).trans e) (λc hc'=>?_) λb o e hn=>⟨o.slots,(other b λr=>?_).trans e⟩) ?_)
 ·obtain rfl:=ah.mp hc'
  exact .inl ⟨ts,oT,hT,dT,nT,bT,sT⟩
 ·subst r;rw[hT] at e;replace e:=i5 e;subst e;exact hn ts dT
 ·exact(λz_ k_=>k_ a vs (λz_ k_=>k_ C oe a0 rfl n b hs ((other a (Ne.symm ne)).trans ho) hc hx hd h0) T _ _ h1 nT bT sT ne (bo _ hT (eB (cA dT _))) (cA dT _) (by simp[hsz3]))
theorem Inv.went{F:Blk}{Z:List (Option V)}{h':Heap}(I:Inv g F A env Z Y s)(W:N0 g A own sx Y sy s h'):Inv g F A env Z Y {s with heap:=h'}:=by
 refine W _ ?_;clear W;rintro-m k t;refine a9 I.loc.ns λmm hn hv=>?_
 have kc:∀ y c,env.cells.lookup y=some c->∀ o,s.heap.get? c=some o->∃ o',h'.get? c=some o'/\o'.data=o.data:=λy c hc o ho=>by
  refine j6 (I.loc.live y c hc) λv o1 ho1 d=>?_
  rw[ho] at ho1;replace ho1:=i5 ho1;subst ho1;obtain⟨o',e,q⟩:=k c o ho λvs q=>by rw[d] at q;cases q
  exact⟨o',e,q.data⟩
 refine⟨I.scope,I.fn,I.glob,I.bltn,I.room,I.units,I.quiet,m,⟨I.loc.len,⟨mm,Ns.kept hn λo ho=>?_,λi y v e1 e2=>(hv i y v e1 e2).keep t kc⟩,I.loc.free,λy c hc=>?_,I.loc.apart,I.loc.other⟩,I.base,I.nd,?_⟩
 ·refine l6 hn λo1 es ep ho1 d z_=>?_
  rw[ho] at ho1;replace ho1:=i5 ho1;subst ho1;obtain⟨o',e,q⟩:=k _ o ho λvs q=>by rw[d] at q;cases q
  exact⟨o',e,q.data⟩
 ·refine c6 (I.loc.live y c hc) λv hv=>?_
  exact⟨v,Cell.kept hv (kc y c hc)⟩
 ·refine I.frs _ ?_;rintro e0 l ha hf all
  refine(λz_ k_=>k_ e0 l ha hf (λv hv=>?_))
  refine(all v hv) _ ?_;rintro L hk hf' hb hs o ho ⟨es,ep,d⟩;obtain⟨o',e,q⟩:=k L o ho λvs q=>by rw[d] at q;cases q
  exact(λz_ k_=>k_ L hk hf' hb hs o' e ⟨es,ep,q.data.trans d⟩)
theorem Frs.frame{h:Heap}(x:Frs g A env Y h):∃ v l L,A.frames=some (v::l)/\v.frame=some L/\env.frame=some L:=by
 refine x _ ?_;clear x;rintro e0 l ha hf all;refine(all e0 (.head _)) _ ?_;rintro L _ h1 _ _ _ _ _;exact⟨e0,l,L,ha,h1,hf.symm.trans h1⟩
theorem U8{F:Blk}{X:j3}(p:A4 g F A env sx sy X e s):notedBy (model g.prog g.w) A env (λx s'=>cameBackBy (model g.prog g.w) A env (A4 g F A env sx sy X) x s') e s:=by
 refine p _ ?_;clear p;rintro x Z' Y' f I st q;refine l6 I.frs.frame λv l L h1 h2 h3=>?_
 refine ae0 st I.frs I.sim f h3 λh₂ W qz=>?_
 have sw:=I.went W;refine W _ ?_;clear W;rintro y2 m2 - -;have F2':=qz;refine qz _ ?_;clear qz;rintro a vs z T oT ts e1 - - - - - - -;refine z _ ?_;clear z;rintro C oe a0 rfl n b hs ho hc hx hd h0;refine wpAny_bind (wpAny_field (s:={s with heap:=h₂}) ho hd e1 ?_)
 rw[if_neg (show ¬ ((Value.ref T==Value.none)=true) from by simp)]
 refine N8 (s:={s with heap:=h₂}) (fo:=env.frame) y2 m2 F2' λh₃ W F₃=>?_
 have I3:=sw.went W;refine W _ ?_;clear W;rintro y3 m3 - -;rw[h3] at F₃;exact(λz_ k_=>k_ x Z' Y' (.on _ F₃ (.inr ⟨l,v,L,h1,h2,rfl⟩)) I3 y3 q)
end
section
variable{g:G}{Y:Hp}{Q:V->Hp->Prop}{X:Str->Hp->Prop}
noncomputable def bO0:Flo->V
 | .ret v=>v
 | _=>.none
theorem ch5(A:Around)(env:Env):(A.deeper env).units=A.units+3:=rfl
theorem bp1(A:Around)(env:Env):(A.deeper env).depth=A.depth+1:=rfl
theorem aD4{A:Around}{v:Env}{Y':Hp}{s s':Shared}(st:Step (inF (A.deeper v)) (i9 v) Y Y' s s')(hl:FrL g A Y s.heap)(hf:v.frame=some v.locals)(fresh:∀ b,i9 v b->s.heap.get? b=none):Step (inF A) f2 Y Y' s s':=
 ⟨st.same,st.dom,λb o e hY z_=>by
  obtain⟨o',e',k⟩:=st.keep b o e hY λhb=>(by rw[fresh b hb] at e;exact f9 e)
  refine⟨o',e',k.mono λq=>?_⟩
  refine g7 q λl w h1 h2 h3=>?_
  refine hl _ ?_;clear hl;rintro l0 ha -;have h4:(A.deeper v).frames=some (v::l0):=by show A.frames.map (v :: ·)=_;rw[ha];rfl
  rw[h4] at h1;replace h1:=i5 h1;subst h1;rcases am.mp h2 with rfl | h2
  ·rw[hf] at h3;replace h3:=i5 h3;subst h3
   rw[fresh _ (.inl rfl)] at e;exact f9 e
  ·exact⟨l0,w,ha,h2,h3⟩,st.tups,st.new⟩
theorem bI1{f:Str}{params:Arguments}{body:List Stmt}{scope:Scope}{vars:List Str}{args:List V}{d:Nat}{q:Bool}(hf:FnAt g f params body scope)
  (ok:ae7 params scope vars=true) (hargs:params.args.length=args.length)
  (hb:∀ pm cd doc vs,vs.length=params.args.length->bindArgs (bH f params body scope pm cd doc) ⟨vs,[]⟩=pure ((params.args.map (·.arg)).zip vs))
  (h:Exs g ⟨scope,vars,d,q⟩ body (args.map some++List.replicate (vars.length-args.length) none) Y (λfl Z' Y'=>∃ Y'',Sub Y'' Y'/\Q (bO0 fl) Y'') (λx z_ Y'=>X x Y')) :
  c7 g (d+1) q f args Y Q X:=(λA s vs a hm hdep hun hq sm fl rs=>by
 refine hf.at' _ ?_;rintro a' o pm cd doc hm' ho hdat hcd;rw[hm] at hm';cases hm';unfold ae7 at ok;simp only[aQ,decide_eq_true_eq,aB,ct,beq_iff_eq,Bool.not_eq_true'] at ok
 obtain⟨⟨⟨⟨⟨⟨hnd,hpar⟩,hle⟩,hkinds⟩,hkf⟩,hco⟩,hgen⟩:=ok;have hlen:params.args.length=vs.length:=by rw[hargs,rs.length]
 have hlen':(params.args.map (·.arg)).length=vs.length:=by simpa using hlen
 have hnd':(params.args.map (·.arg)).Nodup:=by rw[hpar];exact hnd.sublist (List.take_sublist _ _)
 have hin:∀ x∈params.args.map (·.arg),x∈vars:=λx hx=>by rw[hpar] at hx;exact cc hx
 refine codeAny_call_cells (fd:=bH f params body scope pm cd doc) (binds:=(params.args.map (·.arg)).zip vs) (by lia) (sm.stays _ _ ho) hdat (g.nolimit.keeps sm.stays) (hcd.keeps sm.stays) rfl (hb _ _ _ _ hlen.symm) rfl (λx hx=>?_) (λsv ic=>?_) hco hgen hkf
 ·have hx':=hin x.1 (List.of_mem_zip (a:=x.1) (b:=x.2) hx).1
  rcases hkinds _ hx' with e | e
  ·exact .inl e
  ·exact .inr ⟨e,aN7 _ _ _ (.inl e)⟩
 ·have hL:s.heap.get? s.heap.objs.size=none:=u6 _
  have fresh:∀ b,s.heap.objs.size<=b->s.heap.get? b=none:=λb hb=>by
   cases e:s.heap.get? b with
   | none=>rfl
   | some o=>exact absurd (aE e) (cf.mpr hb)
  have own:∀ b,i9 (callEnvC (bH f params body scope pm cd doc) s.heap.objs.size a) b->s.heap.objs.size<=b:=λb hb=>by
   rcases hb with rfl | ⟨c,hc⟩
   ·exact aI _
   ·exact cB (ic.above c b (mem_of_lookup hc))
  have hfree:∀ b,s.heap.objs.size<=b->Y b=none:=λb hb=>by
   cases e:Y b with
   | none=>rfl
   | some o=>
    have:=(sm.objs b o e).1;refine c6 this.has λob e'=>?_
    rw[fresh b hb] at e';exact f9 e'
  have hbase:∀ b,s.heap.objs.size<=b->g.h₀.get? b=none:=λb hb=>by
   cases e:g.h₀.get? b with
   | none=>rfl
   | some o=>have:=sm.stays _ _ e;rw[fresh b hb] at this;exact f9 this
  refine p9 ic.toInCall.same λzq tk1 hs1=>?_
  have tu:l8 s.heap sv.heap:=λb z_ z_ e=>ic.toInCall.keep b _ e
  have st:∀ {fr own:Addr->Prop},Step fr own Y Y s sv:=by intro fr own;rw[hs1];exact Step.grow λb o e=>by have:=ic.toInCall.keep b o e;rw[hs1] at this;exact this
  have I:Inv g ⟨scope,vars,d,q⟩ (A.deeper (callEnvC (bH f params body scope pm cd doc) s.heap.objs.size a)) (callEnvC (bH f params body scope pm cd doc) s.heap.objs.size a)
    (args.map some++List.replicate (vars.length-args.length) none) Y sv:=by
   refine⟨rfl,hkf,rfl,rfl,by rw[bp1];show A.depth+1+d<_;lia,by rw[ch5];show A.units+3+8*d<_;lia,λe=>hq e,sm.grow ic.toInCall.keep,⟨by simp only[ar,aa,bY];lia,⟨_,ic.toInCall.ns,λi x v hx hv=>?_⟩,λb hb=>hfree b (own b hb),λy c hc=>?_,λx y c h1 h2=>name_of_addr ic.apart (mem_of_lookup h1) (mem_of_lookup h2),λy c hc=>?_⟩,λb hb=>hbase b (own b hb),hnd,?_⟩
   ·have hxk:=hkinds x (aD hx)
    have hval:∀ V,v=some V->∃ r,(params.args.map (·.arg))[i]?=some x/\vs[i]?=some r/\Rep sv.heap r V:=λV hV=>by
     subst hV;by_cases hi:i<args.length
     ·rw[bM (by simpa using hi),aq] at hv
      refine a9 (aA.mp hv) λW hW hW'=>?_
      replace hW':=i5 hW';subst hW'
      refine a9 (rs.get hW) λr e1 e2=>?_
      refine⟨r,?_,e1,e2.mono tu⟩;rw[hpar,List.getElem?_take];rw[if_pos (by lia)];exact hx
     ·rw[aS (by simpa using hi),dN] at hv
      split at hv<;>cases hv
    rcases hxk with e | e
    ·refine .inl ⟨e,λV hV=>?_⟩
     refine i8 (hval V hV) λr e1 e2 e3=>?_
     exact⟨r,by rw[(aR4 (k:=(callEnvC (bH f params body scope pm cd doc) s.heap.objs.size a).kindOf) e hnd' hlen').1 i e1];exact e2,e3⟩
    ·refine c6 (bA.mp (aN7 scope.names (s.heap.objs.size+1) [] (.inl e))) λc hc=>?_
     refine .inr ⟨e,c,_,hc,ic.cell x c hc,λV hV=>?_⟩
     refine i8 (hval V hV) λr e1 e2 e3=>?_
     exact⟨r,by rw[(bh5 (k:=(callEnvC (bH f params body scope pm cd doc) s.heap.objs.size a).kindOf) (by show scope.names.lookup x≠_;rw[e];decide) hnd' hlen').1 i e1];exact e2,e3⟩
   ·exact⟨_,ic.cell y c hc⟩
   ·exact λe=>bE _ (e▸ic.above y c (mem_of_lookup hc))
   ·refine fl _ ?_;clear fl;rintro l0 ha all
    refine(λz_ k_=>k_ _ l0 (by show A.frames.map _=_;rw[ha];rfl) rfl (λv hv=>?_))
    rcases am.mp hv with rfl | hv
    ·refine l6 ic.toInCall.ns λo es ep ho hd z_=>?_
     have hm:scope.kind≠.module:=by rw[hkf];decide
     exact(λz_ k_=>k_ _ hm rfl (hbase _ (own _ (.inl rfl))) (hfree _ (own _ (.inl rfl))) o ho ⟨es,ep,hd⟩)
    ·exact(all v hv).step (st (fr:=f2) (own:=f2))
  refine wpAny_mono (h _ _ sv I) (λfl' s' p0=>?_) (λe s' p0=>?_)
  ·refine p0 _ ?_;clear p0;rintro f' Z' Y' r I' st' ⟨Y'',hsub,hQ⟩
   have st2:Step (inF A) f2 Y Y'' s s':=aD4 (st.trans (st'.sub hsub)) fl rfl λb hb=>fresh b (own b hb)
   cases r with
   | ret r=>exact(λz_ k_=>k_ _ Y'' r (I'.sim.sub hsub) st2 hQ)
   | _=>exact(λz_ k_=>k_ _ Y'' .none (I'.sim.sub hsub) st2 hQ)
  ·refine p0 _ ?_;clear p0;rintro x Z' Y' r I' st' hX
   unfold leaving;refine wpAny_bind (ae0 st' I'.frs I'.sim r rfl λh₂ W qz=>?_)
   refine W _ ?_;clear W;rintro y2 m2 - -;refine N8 (s:={s' with heap:=h₂}) (fo:=none) y2 m2 qz λh3 W F₃=>?_
   refine W _ ?_;clear W;rintro y3 m3 - -;exact(λz_ k_=>k_ x Y' (.on _ (F₃.step (st (fr:=f2) (own:=f2))) (.inl rfl)) m3 (aD4 (st.trans y3) fl rfl λb hb=>fresh b (own b hb)) hX))
end
structure IterOK(g:G)(A:Around)(I:Addr)(L:List V)(K:Hp->Prop)(St:Nat->Heap->Prop):Prop where
 frame:∀ i h h',St i h->(∀ o,h.get? I=some o->h'.get? I=some o)->l8 h h'->St i h'
 obj:∀ i h,St i h->∃ o vs,h.get? I=some o/\o.data=.fields vs
 item:∀ i x Y (s:Shared) (Q:Option Value->Shared->Prop) (E:Value->Shared->Prop),L[i]?=some x->St i s.heap->Sim g Y s.heap->K Y->
  (∀ v h' tk,Rep h' v x->St (i+1) h'->Heap.ExtBut I s.heap h'->Q (some v) {s with heap:=h',toks:=tk})->wpAny (model g.prog g.w) A (pyNext (.ref I)) Q E s
 done:∀ Y (s:Shared) (Q:Option Value->Shared->Prop) (E:Value->Shared->Prop),St L.length s.heap->Sim g Y s.heap->K Y->
  (∀ h' tk,Heap.ExtBut I s.heap h'->Q none {s with heap:=h',toks:=tk})->wpAny (model g.prog g.w) A (pyNext (.ref I)) Q E s
 self:∀ i (s:Shared) (Q:Value->Shared->Prop) (E:Value->Shared->Prop),St i s.heap->Q (.ref I) s->wpAny (model g.prog g.w) A (pyIter (.ref I)) Q E s
 plain:∀ i (s:Shared) (v:Value) (elts:List Expr) (k:Nat) (pos:Pos) (Q:Unit->Shared->Prop) (E:Value->Shared->Prop),St i s.heap->Q () s->wpAny (model g.prog g.w) A (letOwnedTupleGo (.Tuple elts k pos) (.ref I) v) Q E s
theorem R7{M:Model}{A:Around}{E:Value->Shared->Prop}{s:Shared}{I:Addr}{o:Obj}{n:String}{vs:Array Value}{v:Value}{elts:List Expr}{k:Nat}{pos:Pos}{Q:Unit->Shared->Prop}
  (ho:s.heap.get? I=some o) (hc:o.cls=.type n) (hd:o.data=.fields vs) (hn:["enumerate","zip","dict_itemiterator","dict_reverseitemiterator","odict_iterator","itertools.zip_longest","itertools.pairwise"].contains n=false) (hQ:Q () s) :
  wpAny M A (letOwnedTupleGo (.Tuple elts k pos) (.ref I) v) Q E s:=by
 unfold letOwnedTupleGo;cases v with
 | ref T=>
  refine wpAny_bind (wpAny_load ho ?_);rw[hc,hd];show wpAny _ A (if (["enumerate","zip","dict_itemiterator","dict_reverseitemiterator","odict_iterator","itertools.zip_longest","itertools.pairwise"].contains n&&vs[0]? == some (rawInt T))=true then _ else _) Q E s
  rw[hn,bZ];exact wpAny_pure hQ
 | _=>exact wpAny_pure hQ
theorem M7{I:Addr}{h h':Heap}{o:Obj}{vs:Array Value}(ho:h.get? I=some o)(hd:o.data=.fields vs)(x:Heap.ExtBut I h h'):l8 h h':=λb us n e=>x b _ (λq=>by
 rw[q,ho] at e;replace e:=i5 e;subst e;cases hd) e
theorem bU4{g:G}{A:Around}(hh:A.handled=none){I ax:Addr}{L:List V}:IterOK g A I L (λY=>Y ax=some (.lst L)) (λi h=>h.IsListIter I ax i) where
 frame:=λi h h' st k z_=>by refine a9 st λo ho r=>?_;exact⟨o,k _ ho,r⟩
 obj:=λi h st=>by refine i8 st λo ho z_ hd=>?_;exact⟨o,_,ho,hd⟩
 item:=λi x Y s Q E hx st sm hK hQ=>by
  refine a9 ((sm.objs _ _ hK).1) λvs hp r=>?_
  refine a9 (r.get hx) λv hv rv=>?_
  refine i8 (id st) λo ho hc hd=>?_
  exact wpAny_pyNext_list_item st hp.isList (x:=v) (by rw[<- av];exact hv) λh' hit' hs'=>hQ v h' s.toks (rv.mono (M7 ho hd hs'.extBut)) hit' hs'.extBut
 done:=λY s Q E st sm hK hQ=>by
  refine a9 ((sm.objs _ _ hK).1) λvs hp r=>?_
  exact wpAny_pyNext_list_end hh st hp.isList (by rw[<- av];simp[<- r.length]) λh' he=>hQ h' s.toks he
 self:=λi s Q E st hQ=>wpAny_pyIter_listiter st hQ
 plain:=λi s v elts k pos Q E st hQ=>by refine i8 st λo ho hc hd=>?_;exact R7 ho hc hd (by decide) hQ
theorem aS1{g:G}{A:Around}(hh:A.handled=none){I t:Addr}{vs:Array Value}{n:Nat}{L:List V} :
  IterOK g A I L (λz_=>True) (λi h=>h.IsTupleIter I t i/\h.get? t=some {cls:=.type "tuple",data:=.seq vs n}/\d5 h vs.toList L) where
 frame:=λi h h' st k t=>by obtain⟨⟨o,ho,r⟩,a,b⟩:=st;exact⟨⟨o,k _ ho,r⟩,t _ _ _ a,b.mono t⟩
 obj:=λi h st=>by obtain⟨⟨o,ho,_,hd⟩,_⟩:=st;exact⟨o,_,ho,hd⟩
 item:=λi x Y s Q E hx st sm hK hQ=>by
  refine k6 st λst1 ht r=>?_
  refine a9 (r.get hx) λv hv rv=>?_
  refine i8 (id st1) λo ho hc hd=>?_
  refine wpAny_pyNext_tuple_item st1 ⟨_,ht,rfl,_,rfl⟩ (x:=v) (by rw[<- av];exact hv) λh' hit' hs'=>?_
  have tu:=M7 ho hd hs'.extBut;exact hQ v h' s.toks (rv.mono tu) ⟨hit',tu _ _ _ ht,r.mono tu⟩ hs'.extBut
 done:=λY s Q E st sm hK hQ=>by
  refine k6 st λst1 ht r=>?_
  exact wpAny_pyNext_tuple_end hh st1 ⟨_,ht,rfl,_,rfl⟩ (by rw[<- av];simp[<- r.length]) λh' he=>hQ h' s.toks he
 self:=λi s Q E st hQ=>wpAny_pyIter_tupleiter st.1 hQ
 plain:=λi s v elts k pos Q E st hQ=>by obtain⟨⟨o,ho,hc,hd⟩,_⟩:=st;exact R7 ho hc hd (by decide) hQ
noncomputable def k8(a c:Int)(n:Nat):List V:=(List.range n).map fun(i:Nat)=>.int (a+(i:Int)*c)
theorem N7(a c:Int)(n:Nat):(k8 a c n).length=n:=by simp[k8]
theorem bT4{a c:Int}{n i:Nat}{x:V}(h:(k8 a c n)[i]?=some x):i<n/\x=.int (a+i*c):=by
 have hi:i<n:=by
  have:=(aj.mp h).1;rwa[N7] at this
 unfold k8 at h;rw[aq,eL hi] at h;exact⟨hi,(Option.some.inj h).symm⟩
theorem bv1{g:G}{A:Around}(hh:A.handled=none){I:Addr}{a c:Int}{n:Nat} :
  IterOK g A I (k8 a c n) (λz_=>True) (λi h=>IsRangeIter h I (a+(i:Nat)*c) ((n:Int)-(i:Nat)) c) where
 frame:=λi h h' st k t=>k _ st
 obj:=λi h st=>⟨_,_,st,rfl⟩
 item:=λi x Y s Q E hx st sm hK hQ=>by
  refine c5 (bT4 hx) λhi q1_=>?_;subst q1_
  refine wpAny_pyNext_range_item st (by lia) λh' hit' hs'=>hQ _ h' _ (.int _ _) ?_ hs'.extBut
  have e1:a+((i+1:Nat):Int)*c=a+(i:Int)*c+c:=by rw[Int.natCast_succ,Int.add_mul];lia
  have e2:(n:Int)-((i+1:Nat):Int)=(n:Int)-(i:Int)-1:=by lia
  show IsRangeIter h' I (a+((i+1:Nat):Int)*c) ((n:Int)-((i+1:Nat):Int)) c;rw[e1,e2];exact hit'
 done:=λY s Q E st sm hK hQ=>by
  rw[N7] at st;exact wpAny_pyNext_range_end hh st (by lia) λh' he=>hQ h' s.toks he
 self:=λi s Q E st hQ=>wpAny_pyIter_rangeiter st hQ
 plain:=λi s v elts k pos Q E st hQ=>R7 st rfl rfl (by decide) hQ
section
variable{prog:Program}{w:World}{A:Around}{s:Shared}
theorem az8{R:Result->Shared->Prop}{target it body orelse env}(I:Nat->Shared->Prop)
  (turn:∀ n s,I n s->wpAny (model prog w) A (pyNext it) (λr sv=>match r with
   | none=>wpAny (model prog w) A (execs orelse env) (λf s3=>R (.ok f) s3) (notedBy (model prog w) A env λe s'=>R (.error e) s') sv
   | some v=>wpAny (model prog w) A (letOwnedTupleGo target it v) (λz_ sv=>wpAny (model prog w) A (assign target env v) (λz_ s2=>wpAny (model prog w) A (execs body env) (λf s3=>match f with
     | .next | .cont=>∃ m,m<n/\I m s3
     | .brk=>R (.ok .next) s3
     | .ret v=>R (.ok (.ret v)) s3) (notedBy (model prog w) A env λe s'=>R (.error e) s') s2) (notedBy (model prog w) A env λe s'=>R (.error e) s') sv) (notedBy (model prog w) A env λe s'=>R (.error e) s') sv) (notedBy (model prog w) A env λe s'=>R (.error e) s') s)
  (n:Nat) (h:I n s):codeAny (model prog w) A (.forLoop target it body orelse env) R s:=by
 refine codeAny_loop' rfl I (λn s hI=>?_) n h
 show wpAny _ _ ((forTurn target it body orelse env).onRaise (λx=>do noteFrame x env;theTreesLotGoes x)) _ _ s
 refine wpAny_noted ?_;simp only[forTurn]
 refine wpAny_bind (wpAny_standAt (wpAny_bind (wpAny_onRaise (wpAny_mono (turn n s hI) (λr sv h1=>?_) λz_ z_ h'=>wpAny_standAt h'))))
 cases r with
 | none=>exact wpAny_pure (.inr ⟨rfl,codeAny_block h1⟩)
 | some v=>
  refine wpAny_bind (wpAny_mono h1 (λz_ sv h1=>?_) λz_ z_ h'=>h')
  refine wpAny_bind (wpAny_mono h1 (λz_ s2 h2=>wpAny_bind (wpAny_mono h2 (λf s3 h3=>?_) λz_ z_ h'=>h')) λz_ z_ h'=>h')
  cases f with
  | next=>exact wpAny_pure (.inl ⟨rfl,h3⟩)
  | cont=>exact wpAny_pure (.inl ⟨rfl,h3⟩)
  | brk=>exact wpAny_pure h3
  | ret v=>exact wpAny_pure h3
end
section
variable{g:G}{F:Blk}{Z:List (Option V)}{Y:Hp}
theorem Step.but{fr own:Addr->Prop}{Y zs:Hp}{s sv:Shared}{I:Addr}{h':Heap}{tk:Nat}(x:Step fr own Y zs s sv)(e:Heap.ExtBut I sv.heap h')(hI:s.heap.get? I=none):Step fr own Y zs s {sv with heap:=h',toks:=tk}:=by
 have ne:∀ b o,s.heap.get? b=some o->b≠I:=λb o hb q=>by rw[q,hI] at hb;exact f9 hb
 refine⟨?_,λb o hb=>?_,λb o hb hY ho=>?_,λb vs n hb=>e _ _ (ne _ _ hb) (x.tups b vs n hb),x.new⟩
 ·exact⟨x.same.1,x.same.2⟩
 ·refine a9 (x.dom b o hb) λo' ho' d=>?_
  exact⟨o',e _ _ (ne _ _ hb) ho',d⟩
 ·refine a9 (x.keep b o hb hY ho) λo' ho' d=>?_
  exact⟨o',e _ _ (ne _ _ hb) ho',d⟩
theorem Sim.but{h h':Heap}{I:Addr}(x:Sim g Y h)(e:Heap.ExtBut I h h')(t:l8 h h')(h1:Y I=none)(h3:g.h₀.get? I=none):Sim g Y h':=
 ⟨λb o hb=>e b o (λq=>by rw[q,h3] at hb;exact f9 hb) (x.stays b o hb),λa o ha=>⟨(x.objs a o ha).1.keep t λob hob=>e a ob (λq=>by rw[q,h1] at ha;exact f9 ha) hob,(x.objs a o ha).2⟩⟩
theorem Step.thing{fr:Addr->Prop}{Y Y':Hp}{s s':Shared}{b:Addr}{o:Obj}(x:Step fr f2 Y Y' s s')(hY:Y b=none)(hb:s.heap.get? b=some o)(hf:¬ fr b):s'.heap.get? b=some o:=x.exact hb hY id hf
theorem Inv.but{A:Around}{env:Env}{s:Shared}{I:Addr}{h':Heap}{tk:Nat}(J:Inv g F A env Z Y s)(e:Heap.ExtBut I s.heap h')(t:l8 s.heap h')(h1:Y I=none)(h2:¬ i9 env I)(h3:g.h₀.get? I=none)(h4:¬ inF A I) :
  Inv g F A env Z Y {s with heap:=h',toks:=tk}:=by
 refine a9 J.loc.ns λm hn hv=>?_
 have hl:∀ b o,i9 env b->s.heap.get? b=some o->h'.get? b=some o:=λb o hb hbo=>e b o (λq=>h2 (q▸hb)) hbo
 refine⟨J.scope,J.fn,J.glob,J.bltn,J.room,J.units,J.quiet,J.sim.but e t h1 h3,
  ⟨J.loc.len,⟨m,hn.at' λo ho=>hl _ o (.inl rfl) ho,λi y v e1 e2=>(hv i y v e1 e2).keep t λy c hc o ho=>⟨o,hl c o (.inr ⟨y,hc⟩) ho,rfl⟩⟩,J.loc.free,λy c hc=>?_,J.loc.apart,J.loc.other⟩,J.base,J.nd,?_⟩
 ·refine c6 (J.loc.live y c hc) λv hv=>?_
  exact⟨v,Cell.kept hv λo ho=>⟨o,hl c o (.inr ⟨y,hc⟩) ho,rfl⟩⟩
 ·refine J.frs _ ?_;rintro e0 l ha hf all
  refine(λz_ k_=>k_ e0 l ha hf (λv hv=>?_))
  refine(all v hv) _ ?_;rintro L hk hf' hb hs o ho d;exact(λz_ k_=>k_ L hk hf' hb hs o (e L o (λq=>h4 ⟨_,v,ha,hv,q▸hf'⟩) ho) d)
theorem Inv.notOwn{A:Around}{env:Env}{s:Shared}{I:Addr}(J:Inv g F A env Z Y s)(h:s.heap.get? I=none):¬ i9 env I:=λq=>by
 rcases q with rfl | ⟨y,hc⟩
 ·obtain⟨m,⟨o,_,_,ho,_⟩,_⟩:=J.loc.ns
  rw[h] at ho;exact f9 ho
 ·refine j6 (J.loc.live y I hc) λz_ o ho z_=>?_;rw[h] at ho;exact f9 ho
theorem Inv.notFr{A:Around}{env:Env}{s:Shared}{I:Addr}(J:Inv g F A env Z Y s)(h:s.heap.get? I=none):¬ inF A I:=J.frs.not (.inl h)
theorem Inv.notBase{A:Around}{env:Env}{s:Shared}{I:Addr}(J:Inv g F A env Z Y s)(h:s.heap.get? I=none):g.h₀.get? I=none:=by
 cases q:g.h₀.get? I with
 | none=>rfl
 | some o=>have:=J.sim.stays _ _ q;rw[h] at this;exact f9 this
def bg9(g:G)(F:Blk)(A:Around)(env:Env)(Z:List (Option V))(Y:Hp)(s:Shared)(Q:List V->(Hp->Prop)->Hp->Prop)(it:Value)(s2:Shared):Prop:=
 ∀ P_:Prop,(∀ (I:Addr) (L:List V) (K:Hp->Prop) (St:Nat->Heap->Prop) (Y':Hp) (e:it=.ref I) (w:IterOK g A I L K St) (st:St 0 s2.heap) (n:s.heap.get? I=none) (m:Y' I=none) (i:Inv g F A env Z Y' s2) (y:Step (inF A) f2 Y Y' s s2) (q:Q L K Y'),P_)->P_
structure Itr(g:G)(F:Blk)(e:Expr)(Z:List (Option V))(Y:Hp)(Q:List V->(Hp->Prop)->Hp->Prop)(X:Str->Hp->Prop):Prop where
 run:∀ A env s,Inv g F A env Z Y s->A.handled=none->wpAny (model g.prog g.w) A (eval e env) (λx sv=>wpAny (model g.prog g.w) A (pyIter x) (bg9 g F A env Z Y s Q) (k9 g F A env Z Y s X) sv) (k9 g F A env Z Y s X) s
 fold:∀ env x,foldedSetIterable e env x=pure x
structure Asg(g:G)(F:Blk)(t:Expr)(v:V)(Z:List (Option V))(Y:Hp)(Q:List (Option V)->Prop):Prop where
 run:∀ A env s x (QU:Unit->Shared->Prop) (E:Value->Shared->Prop),Inv g F A env Z Y s->A.handled=none->Rep s.heap x v->
  (∀ s' Z',Inv g F A env Z' Y s'->Step (inF A) (i9 env) Y Y s s'->Q Z'->QU () s')->wpAny (model g.prog g.w) A (assign t env x) QU E s
 tgt:(∃ x p,t=.Name x p)∨∃ es k p,t=.Tuple es k p
noncomputable def H0(Q:d6)(J:List V->List (Option V)->Hp->Prop)(l:List V):d6:=λf Z Y=>match f with
 | .next=>J l Z Y
 | .cont=>J l Z Y
 | .brk=>Q .next Z Y
 | .ret v=>Q (.ret v) Z Y
def aF9(g:G)(F:Blk)(A:Around)(env:Env)(L:List V)(J:List V->List (Option V)->Hp->Prop)(St:Nat->Heap->Prop)(It:Addr)(Y:Hp)(s:Shared)(n:Nat)(s':Shared):Prop:=
 ∀ P_:Prop,(∀ (i:Nat) (Z':List (Option V)) (Y':Hp) (h1:i+n=L.length+1) (h2:i<=L.length) (h3:J (L.drop i) Z' Y') (h4:St i s'.heap) (h5:Y' It=none) (h6:Inv g F A env Z' Y' s') (h7:Step (inF A) (i9 env) Y Y' s s'),P_)->P_
theorem bf1{Q:d6}{X:j3}{t:Expr}{body:List Stmt}{A:Around}{env:Env}{s:Shared}{It:Addr}{L:List V}{K:Hp->Prop}{St:Nat->Heap->Prop}{J:List V->List (Option V)->Hp->Prop}(hh:A.handled=none)(W:IterOK g A It L K St)(hfr:s.heap.get? It=none)(hown:¬ i9 env It)(hbase:g.h₀.get? It=none)(hnf:¬ inF A It)
  (hturn:∀ v l Z' Y',J (v::l) Z' Y'->K Y'/\Asg g F t v Z' Y' (λZ''=>Exs g F body Z'' Y' (H0 Q J l) X)) (hend:∀ Z' Y',J [] Z' Y'->K Y'/\Q .next Z' Y') {QQ:Except Value Flow->Shared->Prop} (kO:∀ f s',H8 g F A env Y s Q f s'->QQ (.ok f) s') (kE:∀ e s',notedBy (model g.prog g.w) A env (λx s'=>cameBackBy (model g.prog g.w) A env (A4 g F A env Y s X) x s') e s'->notedBy (model g.prog g.w) A env (λx s'=>QQ (.error x) s') e s') {n₀:Nat} {sy:Shared} (h₀:aF9 g F A env L J St It Y s n₀ sy) :
  codeAny (model g.prog g.w) A (.forLoop t (.ref It) body [] env) QQ sy:=by
 refine az8 (aF9 g F A env L J St It Y s) ?_ n₀ h₀;rintro n s' hh_;refine hh_ _ ?_;clear hh_;rintro i Z' Y' hn hi hJ' hst' hY' I' st';refine j6 (W.obj i _ hst') λoI vI hoI hdI=>?_
 by_cases hlt:i<L.length
 ·have hd:L.drop i=L[i]::L.drop (i+1):=bN hlt
  rw[hd] at hJ';refine c5 (hturn _ _ _ _ hJ') λhK asg=>?_
  refine W.item i L[i] Y' s' _ _ (ae hlt) hst' I'.sim hK λv h' tk hr hst1 hx=>?_
  have tu:=M7 hoI hdI hx;have I1:=I'.but (tk:=tk) hx tu hY' hown hbase hnf;have st1:=st'.but (tk:=tk) hx hfr;have go:∀ {QU:Unit->Shared->Prop} {E:Value->Shared->Prop},QU () {s' with heap:=h',toks:=tk}->wpAny (model g.prog g.w) A (letOwnedTupleGo t (.ref It) v) QU E {s' with heap:=h',toks:=tk}:=fun{QU E} hQ=>by
   rcases asg.tgt with ⟨x,p,rfl⟩ | ⟨es,k,p,rfl⟩
   ·exact wpAny_pure hQ
   ·exact W.plain (i+1) _ v es k p QU E hst1 hQ
  refine go (asg.run A env _ v _ _ I1 hh hr λs3 ρ3 I3 st3 hex=>?_)
  have st13:=st1.trans st3;refine wpAny_mono (hex A env s3 I3) (λfl s4 p4=>?_) λe s4 p=>kE _ _ (U8 (p.step st13))
  refine p4 _ ?_;clear p4;rintro f' ρ4 Y4 hf I4 st4 hq4;have st14:=st13.trans st4;refine j6 (W.obj _ _ hst1) λo1 v1 e1 d1=>?_
  have hI3:=st3.exact e1 hY' hown hnf;have hI4:=st4.exact hI3 hY' hown hnf;have hst4:St (i+1) s4.heap:=W.frame _ _ _ hst1 (λo ho=>by rw[e1] at ho;replace ho:=i5 ho;subst ho;exact hI4) (st3.tups.trans st4.tups)
  have hY4:Y4 It=none:=st4.new It o1 hI3 hY';cases hf with
  | next=>exact⟨n-1,by lia,λz_ k_=>k_ (i+1) ρ4 Y4 (by lia) (by lia) hq4 hst4 hY4 I4 st14⟩
  | cont=>exact⟨n-1,by lia,λz_ k_=>k_ (i+1) ρ4 Y4 (by lia) (by lia) hq4 hst4 hY4 I4 st14⟩
  | brk=>exact kO _ _ (λz_ k_=>k_ .next ρ4 Y4 .next I4 st14 hq4)
  | ret r=>exact kO _ _ (λz_ k_=>k_ (.ret _) ρ4 Y4 (.ret r) I4 st14 hq4)
 ·have hii:i=L.length:=by lia
  rw[hii,dy] at hJ';refine c5 (hend _ _ hJ') λhK hQ=>?_
  refine W.done Y' s' _ _ (hii▸hst') I'.sim hK λh' tk hx=>wpAny_execs_nil ?_
  exact kO _ _ (λz_ k_=>k_ .next Z' Y' .next (I'.but (tk:=tk) hx (M7 hoI hdI hx) hY' hown hbase hnf) (st'.but (tk:=tk) hx hfr) hQ)
theorem aQ9{Q:d6}{X:j3}{t iter:Expr}{body:List Stmt}{pos:Pos}(hq:F.q=true)
  (h:Itr g F iter Z Y (λL K zs=>∃ J:List V->List (Option V)->Hp->Prop,J L Z zs/\(∀ v l Z' Y',J (v::l) Z' Y'->K Y'/\Asg g F t v Z' Y' (λZ''=>Exs g F body Z'' Y' (H0 Q J l) X))/\∀ Z' Y',J [] Z' Y'->K Y'/\Q .next Z' Y') (λx zs=>X x Z zs)) :
  Ex g F (.For t iter body [] pos) Z Y Q X:=(λA env s I=>by
 have hh:=I.quiet hq;refine wpAny_For (wpAny_mono (h.run A env s I hh) (λx sv h1=>wpAny_mono h1 (λit s2 h2=>?_) λz_ z_ p=>p.toS) λz_ z_ p=>p.toS) (h.fold env)
 refine h2 _ ?_;clear h2;rintro It L K St zs rfl W hst hfr hYI sw st2 ⟨J,hJ,hturn,hend⟩;have hown:=I.notOwn hfr;have hbase:=I.notBase hfr;have hnf:=I.notFr hfr;exact bf1 hh W hfr hown hbase hnf hturn hend (λz_ z_ p=>p) (λz_ z_ p=>p) (n₀:=L.length+1)
  (λz_ k_=>k_ 0 Z zs (by lia) (ay _) (by simpa using hJ) hst hYI sw (st2.mono λz_ h=>h.elim)))
theorem Itr.mono{e:Expr}{Q Q':List V->(Hp->Prop)->Hp->Prop}{X:Str->Hp->Prop}(h:Itr g F e Z Y Q X)(k:∀ L K Y,Q L K Y->Q' L K Y):Itr g F e Z Y Q' X:=
 ⟨λA env s I hh=>wpAny_mono (h.run A env s I hh) (λx sv h1=>wpAny_mono h1 (λit s2 p=>by refine p _ ?_;clear p;rintro It L K St Y' e1 e2 e3 e4 e5 e6 e7 q;exact(λz_ k_=>k_ It L K St Y' e1 e2 e3 e4 e5 e6 e7 (k _ _ _ q))) λz_ z_ p=>p) λz_ z_ p=>p,h.fold⟩
end
section
variable{g:G}{F:Blk}{Z:List (Option V)}{Y:Hp}{X:Str->Hp->Prop}
theorem Step.push'{fr own:Addr->Prop}{Y zs:Hp}{s sv:Shared}{o:Obj}(x:Step fr own Y zs s sv):Step fr own Y zs s {sv with heap:=sv.heap.push o}:=x.trans Step.push
theorem Step.freshSize{fr own:Addr->Prop}{Y zs:Hp}{s sv:Shared}(x:Step fr own Y zs s sv):s.heap.get? sv.heap.objs.size=none:=by
 cases q:s.heap.get? sv.heap.objs.size with
 | none=>rfl
 | some o=>refine a9 (x.dom _ o q) λo' ho' z_=>?_;rw[u6] at ho';exact f9 ho'
def bu2(g:G)(F:Blk)(A:Around)(env:Env)(Z:List (Option V))(Y:Hp)(s:Shared)(Q:Int->Int->Int->Hp->Prop)(x:Value)(sv:Shared):Prop:=
 ∀ P_:Prop,(∀ (r:Addr) (a b c:Int) (t u v:Tok) (Y':Hp) (e:x=.ref r) (o:IsRange sv.heap r a b c t u v) (i:Inv g F A env Z Y' sv) (y:Step (inF A) f2 Y Y' s sv) (q:Q a b c Y'),P_)->P_
def Rng(g:G)(F:Blk)(e:Expr)(Z:List (Option V))(Y:Hp)(Q:Int->Int->Int->Hp->Prop)(X:Str->Hp->Prop):Prop:=
 ∀ A env s,Inv g F A env Z Y s->wpAny (model g.prog g.w) A (eval e env) (bu2 g F A env Z Y s Q) (k9 g F A env Z Y s X) s
theorem bF7{x:Str}{np pos:Pos}{e:Expr}{Q:Int->Int->Int->Hp->Prop}(hk:F.sc.names.lookup x=some .globalImplicit)(hg:g.mg x=none)(hb:g.mb x=some (.type "range"))
  (h:Ev g F e Z Y (λv zs=>∃ n,v=.int n/\Q 0 n 1 zs) X) (hd:(x==("__debug__" : Str))=false) (he:∀ env,starEach [e] env=(false,eval e env)::starEach [] env):Rng g F (.Call (.Name x np) [e] [] pos) Z Y Q X:=(λA env s I=>by
 refine wpAny_Call_ofName (Calls.Name_function_global I.fn (by show env.scope.names.lookup x=_;rw[I.scope];exact hk) (aK (by rw[I.glob];exact g.ns.keeps I.sim.stays) hg (by rw[I.bltn];exact g.nb.keeps I.sim.stays) hb ?_) hd)
 have hp:(backTo pos (starEach [e] env)).any (·.1)=false:=by rw[he];rfl
 refine callWith_excType hp (x9 hp (wpAny_items_cons (pgo (h A env s I) (λv sv V zs r I1 st1 hpq=>wpAny_items_nil ?_) λz_ z_ p=>p) (he env)))
 refine a9 hpq λn hV hQ=>?_
 subst hV;refine c6 r.ofInt λz_ q1_=>?_;subst q1_
 refine call_range_1 (λz_ k_=>k_ _ 0 n 1 _ _ _ zs rfl (an _ rfl) ?_ ?_ hQ)
 ·exact I1.keep (Step.grow λb o e=>ag _ e) I1.sim.push
 ·exact st1.trans (Step.grow λb o e=>ag _ e))
theorem aT5{e:Expr}{Q:List V->(Hp->Prop)->Hp->Prop}(h:Rng g F e Z Y (λa b c zs=>Builtin.Range.small a b c=true/\Q (k8 a c (Builtin.Range.rangeSize a b c).toNat) (λz_=>True) zs) X)(hf:∀ env x,foldedSetIterable e env x=pure x):Itr g F e Z Y Q X:=
 ⟨λA env s I hh=>wpAny_mono (h A env s I) (λx sv hpq=>by
  refine hpq _ ?_;clear hpq;rintro r a b c t u v zs hx hr I1 st1 ⟨hsm,hQ⟩;subst hx;refine wpAny_pyIter_range hr hsm ?_;have hn:0<=Builtin.Range.rangeSize a b c:=by
   unfold Builtin.Range.rangeSize
   split
   ·split
    ·have:=cP (a:=b-a-1) (b:=c) (by lia) (by lia);lia
    ·exact fc _
   ·split
    ·by_cases hc:c=0
     ·subst hc;simp
     ·have:=cP (a:=a-b-1) (b:=-c) (by lia) (by lia);lia
    ·exact fc _
  refine(λz_ k_=>k_ _ _ _ _ zs rfl (bv1 hh (a:=a) (c:=c) (n:=(Builtin.Range.rangeSize a b c).toNat)) ?_ ?_ I1.sim.fresh (I1.keep Step.push I1.sim.push) st1.push' hQ)
  ·have e1:((Builtin.Range.rangeSize a b c).toNat:Int)-((0:Nat):Int)=Builtin.Range.rangeSize a b c:=by lia
   have e2:a+((0:Nat):Int)*c=a:=by simp
   rw[e1,e2];exact an _ rfl
  ·exact st1.freshSize) λz_ z_ p=>p,hf⟩
def cb5(g:G)(F:Blk)(A:Around)(env:Env)(J:Nat->List (Option V)->Hp->Prop)(Y:Hp)(s:Shared)(n:Nat)(s':Shared):Prop:=
 ∀ P_:Prop,(∀ (Z':List (Option V)) (Y':Hp) (h1:J n Z' Y') (h2:Inv g F A env Z' Y' s') (h3:Step (inF A) (i9 env) Y Y' s s'),P_)->P_
theorem bu0{Q:d6}{X:j3}{test:Expr}{body:List Stmt}{pos:Pos}(J:Nat->List (Option V)->Hp->Prop){n:Nat}(h0:J n Z Y)
  (h:∀ n Z' Y',J n Z' Y'->Tst g F test Z' Y' (λb zs=>(b=true->Exs g F body Z' zs (λf Z₂ Y2=>match f with
   | .next=>∃ m,m<n/\J m Z₂ Y2
   | .cont=>∃ m,m<n/\J m Z₂ Y2
   | .brk=>Q .next Z₂ Y2
   | .ret v=>Q (.ret v) Z₂ Y2) X)/\(b=false->Q .next Z' zs)) (λx zs=>X x Z' zs)):Ex g F (.While test body [] pos) Z Y Q X:=(λA env s I=>by
 refine wpAny_While (codeAny_whileLoop (cb5 g F A env J Y s) ?_ n (λz_ k_=>k_ Z Y h0 I Step.refl))
 rintro n s' hh_;refine hh_ _ ?_;clear hh_;rintro Z' Y' hJ I' st';refine A6 ((h n Z' Y' hJ) A env s' I') (λb sv zs I1 st₁ hb=>?_) λe sv p=>U8 (p.toS.step st')
 have st1:Step (inF A) (i9 env) Y zs s sv:=st'.trans (st₁.mono λz_ h=>h.elim)
 cases b with
 | false=>exact wpAny_execs_nil (λz_ k_=>k_ .next Z' zs .next I1 st1 (hb.2 rfl))
 | true=>
  refine wpAny_mono ((hb.1 rfl) A env sv I1) (λf s2 p0=>?_) λe s2 p=>U8 (p.step st1)
  refine p0 _ ?_;clear p0;rintro f' Z₂ Y2 hf sw st2 hq;cases hf with
  | next=>refine a9 hq λm hm hJ'=>?_;exact⟨m,hm,λz_ k_=>k_ Z₂ Y2 hJ' sw (st1.trans st2)⟩
  | cont=>refine a9 hq λm hm hJ'=>?_;exact⟨m,hm,λz_ k_=>k_ Z₂ Y2 hJ' sw (st1.trans st2)⟩
  | brk=>exact(λz_ k_=>k_ .next Z₂ Y2 .next sw (st1.trans st2) hq)
  | ret r=>exact(λz_ k_=>k_ (.ret _) Z₂ Y2 (.ret r) sw (st1.trans st2) hq))
end
end Internal
set_option maxHeartbeats 1000000
namespace Internal
noncomputable def zp:List V->Bool
 | [.ref _,_]=>true
 | [.none,_]=>true
 | _=>false
mutual
noncomputable def nz:V->Bool
 | .tup l=>!zp l&&nzL l
 | _=>true
noncomputable def nzL:List V->Bool
 | []=>true
 | x::l=>nz x&&nzL l
end
structure TupsZ(TO:Addr)(h h':Heap):Prop where
 keep:∀ b vs n,b≠TO->h.get? b=some {cls:=.type "tuple",data:=.seq vs n}->h'.get? b=some {cls:=.type "tuple",data:=.seq vs n}
 pair:∀ vs n,h.get? TO=some {cls:=.type "tuple",data:=.seq vs n}->∃ x y,vs=#[x,y]/\(x=.none∨∃ a,x=.ref a/\∀ us m,h.get? a≠some {cls:=.type "tuple",data:=.seq us m})
theorem TupsZ.zp{TO:Addr}{h h':Heap}(k:TupsZ TO h h'){vs:Array Value}{n:Nat}{l:List V}(e:h.get? TO=some {cls:=.type "tuple",data:=.seq vs n})(r:d5 h vs.toList l):zp l=true:=by
 refine j6 (k.pair vs n e) λx y q1_ hx=>?_;subst q1_
 refine g7 r.uncons λX l1 q1_ rX r1=>?_;subst q1_
 refine g7 r1.uncons λYb l2 q1_ rY r2=>?_;subst q1_
 cases l2 with
 | cons z l=>refine j6 r2.ofCons λz_ z_ e z_=>?_;cases e
 | nil=>
  rcases hx with rfl | ⟨a,rfl,ha⟩
  ·cases X with
   | none=>rfl
   | bool b=>cases rX.ofBool
   | int i=>refine c6 rX.ofInt λt e=>?_;cases e
   | str i=>refine c6 rX.ofStr λt e=>?_;cases e
   | tup l=>refine x8 rX.ofTup λa vs n e z_=>?_;cases e
   | ref a=>cases rX.ofRef
  ·cases X with
   | none=>cases rX.ofNone
   | bool b=>cases rX.ofBool
   | int i=>refine c6 rX.ofInt λt e=>?_;cases e
   | str i=>refine c6 rX.ofStr λt e=>?_;cases e
   | tup l=>refine l6 rX.ofTup λb us m e ho z_=>?_;cases e;exact(ha _ _ ho).elim
   | ref b=>rfl
theorem Rep.nz{TO:Addr}{h h':Heap}{v:Value}{x:V}(k:TupsZ TO h h'):nz x=true->Rep h v x->Rep h' v x:=
 V.rec (motive_1:=λx=>∀ v,Internal.nz x=true->Rep h v x->Rep h' v x) (motive_2:=λl=>∀ vs,nzL l=true->d5 h vs l->d5 h' vs l) (λz_ z_ r=>r) (λz_ z_ z_ r=>r) (λz_ z_ z_ r=>r) (λz_ z_ z_ r=>r)
  (λl ih v q r=>by
   refine l6 r.ofTup λa vs n e ho r=>?_
   refine c5 (aM.mp (show(!Internal.zp l&&nzL l)=true from q)) λq1 q2=>?_
   refine⟨a,vs,n,e,k.keep _ _ _ (λqa=>?_) ho,ih _ q2 r⟩
   rw[qa] at ho;rw[k.zp ho r] at q1;cases q1) (λz_ z_ z_ r=>r) (λz_ z_ r=>r)
  (λx l hx hl vs q r=>by
   refine g7 r.ofCons λv us e r1 r2=>?_
   refine c5 (aM.mp (show(Internal.nz x&&nzL l)=true from q)) λq1 q2=>?_
   exact⟨v,us,e,hx _ q1 r1,hl _ q2 r2⟩) x v
theorem d5.nz{TO:Addr}{h h':Heap}{vs:List Value}{l:List V}(k:TupsZ TO h h')(q:nzL l=true)(r:d5 h vs l):d5 h' vs l:=by
 induction l generalizing vs with
 | nil=>exact r
 | cons x l ih=>
  refine g7 r.ofCons λv us e r1 r2=>?_
  refine c5 (aM.mp (show(Internal.nz x&&nzL l)=true from q)) λq1 q2=>?_
  exact⟨v,us,e,r1.nz k q1,ih q2 r2⟩
noncomputable def nzO:AObj->Bool
 | .lst l=>nzL l
 | .di l=>nzL (l.map (·.2))
 | .ds l=>nzL (l.map (·.2))
 | .ex _=>true
noncomputable def NZ(Y:Hp):Prop:=∀ a o,Y a=some o->nzO o=true
noncomputable def NR(Z:List (Option V)):Prop:=∀ (i:Nat) (v:V),Z[i]?=some (some v)->nz v=true
theorem NZ.upd{Y:Hp}(h:NZ Y){a:Addr}{o:AObj}(ho:nzO o=true):NZ (upd Y a o):=λb p e=>by
 by_cases q:b=a
 ·rw[q,d3] at e;replace e:=i5 e;subst e;exact ho
 ·rw[d8 _ _ q] at e;exact h b p e
noncomputable def M4(wr:List Addr)(h h':Heap):Prop:=∀ b o,b∉wr->h.get? b=some o->h'.get? b=some o
section
variable{g:G}{F:Blk}{Z:List (Option V)}{Y:Hp}{TO:Addr}{wr:List Addr}
theorem n7.nz{prog:Program}{w:World}{K:Type}[DecidableEq K]{knd:KeyKind prog w K}{h h':Heap}{a:Addr}{l:List (K×V)}(x:n7 knd h a l)(q:nzL (l.map (·.2))=true)(t:TupsZ TO h h')(k:∀ ob,h.get? a=some ob->h'.get? a=some ob):n7 knd h' a l:=by
 refine x _ ?_;clear x;rintro kvs d r n;refine x8 d λo es ep ho p=>?_
 exact(λz_ k_=>k_ kvs ⟨o,es,ep,k o ho,p⟩ ⟨r.1,r.2.nz t q⟩ n)
theorem u8.nz{h h':Heap}{a:Addr}{o:AObj}(x:u8 g h a o)(q:nzO o=true)(t:TupsZ TO h h')(k:∀ ob,h.get? a=some ob->h'.get? a=some ob):u8 g h' a o:=by
 cases o with
 | lst l=>refine a9 x λvs hp r=>?_;exact⟨vs,hp.at k,r.nz t q⟩
 | di l=>exact n7.nz x q t k
 | ds l=>exact n7.nz x q t k
 | ex y=>refine l6 x λC oe vs h1 e h2=>?_;exact⟨C,oe,vs,h1,k _ e,h2⟩
theorem Sim.nz{h h':Heap}(x:Sim g Y h)(q:NZ Y)(e:M4 wr h h')(t:TupsZ TO h h')(h1:∀ b∈wr,Y b=none)(h3:∀ b∈wr,g.h₀.get? b=none):Sim g Y h':=
 ⟨λb o hb=>e b o (λm=>by rw[h3 b m] at hb;exact f9 hb) (x.stays b o hb),λa o ha=>⟨(x.objs a o ha).1.nz (q a o ha) t λob hob=>e a ob (λm=>by rw[h1 a m] at ha;exact f9 ha) hob,(x.objs a o ha).2⟩⟩
theorem I8.nz{env:Env}{h h':Heap}{m:Str->Option Value}{x:Str}{v:Option V}(y:I8 env h m x v)(q:∀ V,v=some V->Internal.nz V=true)(t:TupsZ TO h h')(k:∀ y c,env.cells.lookup y=some c->∀ o,h.get? c=some o->∃ o',h'.get? c=some o'/\o'.data=o.data):I8 env h' m x v:=by
 rcases y with ⟨e,y⟩ | ⟨e,c,r,hc,hcell,y⟩
 ·exact .inl ⟨e,λV hV=>by refine a9 (y V hV) λr e1 e2=>?_;exact⟨r,e1,e2.nz t (q V hV)⟩⟩
 ·exact .inr ⟨e,c,r,hc,Cell.kept hcell λo q=>k x c hc o q,λV hV=>by refine a9 (y V hV) λr e1 e2=>?_;exact⟨r,e1,e2.nz t (q V hV)⟩⟩
theorem Inv.nz{A:Around}{env:Env}{s:Shared}{h':Heap}{tk:Nat}(J:Inv g F A env Z Y s)(qs:NZ Y)(qr:NR Z)(e:M4 wr s.heap h')(t:TupsZ TO s.heap h')(h1:∀ b∈wr,Y b=none)(h2:∀ b∈wr,¬ i9 env b)(h3:∀ b∈wr,g.h₀.get? b=none)(h4:∀ b∈wr,¬ inF A b) :
  Inv g F A env Z Y {s with heap:=h',toks:=tk}:=by
 refine a9 J.loc.ns λm hn hv=>?_
 have hl:∀ b o,i9 env b->s.heap.get? b=some o->h'.get? b=some o:=λb o hb hbo=>e b o (λq=>h2 b q hb) hbo
 refine⟨J.scope,J.fn,J.glob,J.bltn,J.room,J.units,J.quiet,J.sim.nz qs e t h1 h3,
  ⟨J.loc.len,⟨m,hn.at' λo ho=>hl _ o (.inl rfl) ho,λi y v e1 e2=>(hv i y v e1 e2).nz (λV hV=>qr i V (by rw[e2,hV])) t λy c hc o ho=>⟨o,hl c o (.inr ⟨y,hc⟩) ho,rfl⟩⟩,J.loc.free,λy c hc=>?_,J.loc.apart,J.loc.other⟩,J.base,J.nd,?_⟩
 ·refine c6 (J.loc.live y c hc) λv hv=>?_
  exact⟨v,Cell.kept hv λo ho=>⟨o,hl c o (.inr ⟨y,hc⟩) ho,rfl⟩⟩
 ·refine J.frs _ ?_;rintro e0 l ha hf all
  refine(λz_ k_=>k_ e0 l ha hf (λv hv=>?_))
  refine(all v hv) _ ?_;rintro L hk hf' hb hs o ho d;exact(λz_ k_=>k_ L hk hf' hb hs o (e L o (λq=>h4 L q ⟨_,v,ha,hv,hf'⟩) ho) d)
theorem Step.nz{fr own:Addr->Prop}{zs:Hp}{s sv:Shared}{h':Heap}{tk:Nat}(x:Step fr own Y zs s sv)(e:M4 wr sv.heap h')(hI:∀ b∈wr,s.heap.get? b=none):Step fr own Y zs s {sv with heap:=h',toks:=tk}:=by
 have ne:∀ b o,s.heap.get? b=some o->b∉wr:=λb o hb q=>by rw[hI b q] at hb;exact f9 hb
 refine⟨?_,λb o hb=>?_,λb o hb hY ho=>?_,λb vs n hb=>e _ _ (ne _ _ hb) (x.tups b vs n hb),x.new⟩
 ·exact⟨x.same.1,x.same.2⟩
 ·refine a9 (x.dom b o hb) λo' ho' d=>?_
  exact⟨o',e _ _ (ne _ _ hb) ho',d⟩
 ·refine a9 (x.keep b o hb hY ho) λo' ho' d=>?_
  exact⟨o',e _ _ (ne _ _ hb) ho',d⟩
end
section
variable{prog:Program}{w:World}{A:Around}{E:Value->Shared->Prop}{s:Shared}
theorem aV4{it t:Addr}{i:Nat}{items:Array Value}{x:Value}{Q:Value->Shared->Prop}(hit:s.heap.IsTupleIter it t i)(ht:s.heap.IsTuple t items)(hx:items[i]?=some x)
  (hQ:∀ h',h'.IsTupleIter it t (i+1)->Heap.SameBut it s.heap h'->Q x {s with heap:=h'}):wpAny (model prog w) A (Builtin.SmallTypes.nextOf (.ref it)) Q E s:=by
 refine i8 (id hit) λo ho hc hd=>?_
 obtain⟨ol,hol,_,nl,hdl⟩:=ht;unfold Builtin.SmallTypes.nextOf;refine wpAny_bind (wpAny_callSpecial?_slot (name:=Str.ofString "__next__") hit.typeIs F.slot_tuple_iterator_next (wpAny_call_entry F.slot_tuple_iterator_next hit.typeIs F.entry_tuple_iterator_next ?_ (F.args_tuple_iterator_next_1 _)));show wpAny _ _ (field (.ref it) 0 >>= _) _ _ s;refine wpAny_bind (wpAny_field ho hd (x:=.ref t) rfl ?_);show wpAny _ _ (if (Value.ref t==Value.none)=true then _ else _) _ _ s
 rw[if_neg (show ¬ ((Value.ref t==Value.none)=true) from ac)]
 show wpAny _ _ (field (.ref it) 1 >>= _) _ _ s;refine wpAny_bind (wpAny_field ho hd (x:=.int i 0) rfl ?_);show wpAny _ _ (seqItems? (.ref t) >>= _) _ _ s;refine wpAny_bind (wpAny_seqItems hol hdl ?_);simp only[bL,hx]
 refine wpAny_bind (wpAny_setField ho hd (by simp) (wpAny_pure ⟨x,rfl,wpAny_pure (hQ _ ?_ (Heap.SameBut.update ..))⟩))
 exact⟨_,bo _ ho (eB (cA hd _)),(Obj.cls_mapFields ..).trans hc,by rw[cA hd];simp[rawInt]⟩
theorem bN2{it t:Addr}{i:Nat}{items:Array Value}{Q:Value->Shared->Prop}(hh:A.handled=none)(hit:s.heap.IsTupleIter it t i)(ht:s.heap.IsTuple t items)(hx:items[i]?=none)
  (hE:∀ h' e,Heap.ExtBut it s.heap h'->(∃ o,h'.get? e=some o/\o.cls=.type "StopIteration")->E (.ref e) {s with heap:=h'}):wpAny (model prog w) A (Builtin.SmallTypes.nextOf (.ref it)) Q E s:=by
 refine i8 (id hit) λo ho hc hd=>?_
 obtain⟨ol,hol,_,nl,hdl⟩:=ht;unfold Builtin.SmallTypes.nextOf;refine wpAny_bind (wpAny_callSpecial?_slot (name:=Str.ofString "__next__") hit.typeIs F.slot_tuple_iterator_next (wpAny_call_entry F.slot_tuple_iterator_next hit.typeIs F.entry_tuple_iterator_next ?_ (F.args_tuple_iterator_next_1 _)));show wpAny _ _ (field (.ref it) 0 >>= _) _ _ s;refine wpAny_bind (wpAny_field ho hd (x:=.ref t) rfl ?_);show wpAny _ _ (if (Value.ref t==Value.none)=true then _ else _) _ _ s
 rw[if_neg (show ¬ ((Value.ref t==Value.none)=true) from ac)]
 show wpAny _ _ (field (.ref it) 1 >>= _) _ _ s;refine wpAny_bind (wpAny_field ho hd (x:=.int i 0) rfl ?_);show wpAny _ _ (seqItems? (.ref t) >>= _) _ _ s;refine wpAny_bind (wpAny_seqItems hol hdl ?_);simp only[bL,hx]
 refine wpAny_bind (wpAny_rule (wpAny_bind (wpAny_setField ho hd (by simp) ?_)))
 show wpAny _ _ (newExc (.type "StopIteration") [] >>= _) _ _ _;refine wpAny_bind ?_;simp only[newExc,newTuple]
 refine wpAny_bind (wpAny_newObj_type ?_ (by size_fits))
 refine wpAny_bind (m:=firstArgMember _ _) (wpAny_of_eq (a:=Value.none) (by first | rfl | (simp only[firstArgMember];rfl)) ?_)
 refine wpAny_newObj_type ?_ (by size_fits)
 simp only[raiseNew]
 refine wpAny_bind (wpAny_handled ?_);first | rw[show A.in1.handled=none from hh] | rw[hh]
 refine wpAny_bind (wpAny_pure (wpAny_throw ?_));exact hE _ _ (((Heap.SameBut.update ..).extBut.push _).push _) ⟨_,an _ rfl,rfl⟩
end
section
variable{prog:Program}{w:World}{A:Around}{E:Value->Shared->Prop}{s:Shared}{z TI TO i1 i2 l1 l2:Addr}{k1 k2:Nat}{xs ys:Array Value}
theorem ci4{x y a b:Value}{Q:Value->Shared->Prop}(D:ZipApart z TI TO i1 i2 l1 l2)
  (hz:IsZip s.heap z TI TO .none) (hTI:IsPair s.heap TI (.ref i1) (.ref i2)) (hTO:IsPair s.heap TO a b)
  (h1:s.heap.IsListIter i1 l1 k1) (h2:s.heap.IsTupleIter i2 l2 k2) (hl1:s.heap.IsList l1 xs) (hl2:s.heap.IsTuple l2 ys) (hx:xs[k1]?=some x) (hy:ys[k2]?=some y)
  (hQ:∀ h',IsZip h' z TI TO (rawInt s.heap.objs.size)->IsPair h' TO x y->h'.IsListIter i1 l1 (k1+1)->h'.IsTupleIter i2 l2 (k2+1)->IsPair h' s.heap.objs.size x y->
   (∀ c o,c≠z->c≠TO->c≠i1->c≠i2->s.heap.get? c=some o->h'.get? c=some o)->Q (.ref s.heap.objs.size) {s with heap:=h'}) :
  wpAny (model prog w) A (Builtin.«zip.__next__» ⟨[.ref z],[]⟩) (λfin s'=>∃ v,fin=.done (.ret v)/\Q v s') E s:=by
 show wpAny _ _ (field (.ref z) 2 >>= _) _ _ _;refine wpAny_bind (wpAny_field hz rfl (x:=.bool false) rfl ?_);show wpAny _ _ (field (.ref z) 3 >>= _) _ _ _;refine wpAny_bind (wpAny_field hz rfl (x:=.ref TI) rfl ?_);refine wpAny_bind (wpAny_seqItems hTI rfl ?_);show wpAny _ _ (Builtin.SmallTypes.ownedTupleIsFree (.ref z) >>= _) _ _ _;refine wpAny_bind ?_;unfold Builtin.SmallTypes.ownedTupleIsFree;refine wpAny_bind (wpAny_field hz rfl (x:=.none) rfl (wpAny_pure ?_));simp only[if_true]
 refine wpAny_bind (wpAny_rule ?_);refine wpAny_bind (wpAny_field hz rfl (x:=.ref TO) rfl ?_);refine wpAny_bind (wpAny_setField_rec hz (by simp) λzq hz1 hs1=>?_)
 replace hz1:IsZip zq z TI TO .ellipsis:=hz1
 refine wpAny_bind ?_;simp only[List.zipIdx_cons,List.zipIdx_nil,dR,List.forIn_nil]
 refine wpAny_bind (wpAny_bind (wpAny_onRaise ?_));show wpAny _ _ (Builtin.SmallTypes.nextOf (.ref i1) >>= _) _ _ _;refine wpAny_bind (wpAny_nextOf_list_item (h1.extBut hs1.extBut D.i1z) (hl1.extBut hs1.extBut D.l1z) hx λh₂ h12 hs2=>wpAny_pure ?_)
 have hTO2:IsPair h₂ TO a b:=hs2.extBut _ _ D.TOi1 (hs1.extBut _ _ D.TOz hTO);refine wpAny_bind (wpAny_seqItems hTO2 rfl ?_);refine wpAny_bind (wpAny_updateSeq_pair hTO2 λh3 hTO3 hs3=>?_)
 replace hTO3:IsPair h3 TO x b:=hTO3
 refine wpAny_bind (wpAny_letGo (wpAny_pure ?_));refine wpAny_bind (wpAny_bind (wpAny_onRaise ?_));show wpAny _ _ (Builtin.SmallTypes.nextOf (.ref i2) >>= _) _ _ _;refine wpAny_bind (aV4 (((h2.extBut hs1.extBut D.i2z).extBut hs2.extBut D.i12.symm).extBut hs3.extBut D.TOi2.symm)
  (((hl2.extBut hs1.extBut D.l2z).extBut hs2.extBut D.l2i1).extBut hs3.extBut D.l2TO) hy λh4 h24 hs4=>wpAny_pure ?_)
 have hTO4:IsPair h4 TO x b:=hs4.extBut _ _ D.TOi2 hTO3;refine wpAny_bind (wpAny_seqItems hTO4 rfl ?_);refine wpAny_bind (wpAny_updateSeq_pair hTO4 λh5 hTO5 hs5=>?_)
 replace hTO5:IsPair h5 TO x y:=hTO5
 refine wpAny_bind (wpAny_letGo (wpAny_pure (wpAny_pure ?_)));refine wpAny_bind (wpAny_seqItems hTO5 rfl ?_);refine wpAny_bind (wpAny_newTuple ?_);have hsz:h5.objs.size=s.heap.objs.size:=by rw[hs5.1,hs4.1,hs3.1,hs2.1,hs1.1]
 have hz5:IsZip h5 z TI TO .ellipsis:=hs5.extBut _ _ D.TOz.symm (hs4.extBut _ _ D.i2z.symm (hs3.extBut _ _ D.TOz.symm (hs2.extBut _ _ D.i1z.symm hz1)));have hk5:∀ c o,c≠z->c≠TO->c≠i1->c≠i2->s.heap.get? c=some o->h5.get? c=some o:=λc o c1 c2 c3 c4 e=>
  hs5.extBut _ _ c2 (hs4.extBut _ _ c4 (hs3.extBut _ _ c2 (hs2.extBut _ _ c3 (hs1.extBut _ _ c1 e))))
 have h15:=((h12.extBut hs3.extBut D.TOi1.symm).extBut hs4.extBut D.i12).extBut hs5.extBut D.TOi1.symm;have h25:=h24.extBut hs5.extBut D.TOi2.symm;show wpAny _ _ (Builtin.SmallTypes.ownedTupleHandOut (.ref z) (.ref h5.objs.size) >>= _) _ _ _;refine wpAny_bind ?_;unfold Builtin.SmallTypes.ownedTupleHandOut;have hz6:IsZip (h5.push {cls:=.type "tuple",data:=.seq #[x,y]}) z TI TO .ellipsis:=ag _ hz5;refine wpAny_bind (wpAny_setField_rec hz6 (by simp) λh7 hz7 hs7=>?_)
 replace hz7:IsZip h7 z TI TO (rawInt h5.objs.size):=hz7
 refine wpAny_setField_rec hz7 (by simp) λh8 hz8 hs8=>?_
 replace hz8:IsZip h8 z TI TO (rawInt h5.objs.size):=hz8
 have up:∀ c o,c≠z->h5.get? c=some o->h8.get? c=some o:=λc o c1 e=>hs8.extBut _ _ c1 (hs7.extBut _ _ c1 (ag _ e))
 have hzne:=cQ (aE hz5);have hT8:IsPair h8 h5.objs.size x y:=hs8.extBut _ _ hzne (hs7.extBut _ _ hzne (an _ rfl));rw[hsz] at hz8 hT8;refine wpAny_pure ⟨_,rfl,?_⟩;show Q (.ref h5.objs.size) _;rw[hsz];exact hQ h8 hz8 (up _ _ D.TOz hTO5) (h15.at λo e=>up _ o D.i1z e) (h25.at λo e=>up _ o D.i2z e) hT8 λc o c1 c2 c3 c4 e=>up c o c1 (hk5 c o c1 c2 c3 c4 e)
theorem cd7{a b:Value}{Q:PySem.Fin->Shared->Prop}(hh:A.handled=none)(D:ZipApart z TI TO i1 i2 l1 l2)
  (hz:IsZip s.heap z TI TO .none) (hTI:IsPair s.heap TI (.ref i1) (.ref i2)) (hTO:IsPair s.heap TO a b)
  (h1:s.heap.IsListIter i1 l1 k1) (h2:s.heap.IsTupleIter i2 l2 k2) (hl1:s.heap.IsList l1 xs) (hl2:s.heap.IsTuple l2 ys) (hend:xs[k1]?=none∨ys[k2]?=none)
  (hE:∀ h' e,(∀ c o,c≠z->c≠TO->c≠i1->c≠i2->s.heap.get? c=some o->h'.get? c=some o)->(∃ o,h'.get? e=some o/\o.cls=.type "StopIteration")->E (.ref e) {s with heap:=h'}) :
  wpAny (model prog w) A (Builtin.«zip.__next__» ⟨[.ref z],[]⟩) Q E s:=by
 show wpAny _ _ (field (.ref z) 2 >>= _) _ _ _;refine wpAny_bind (wpAny_field hz rfl (x:=.bool false) rfl ?_);show wpAny _ _ (field (.ref z) 3 >>= _) _ _ _;refine wpAny_bind (wpAny_field hz rfl (x:=.ref TI) rfl ?_);refine wpAny_bind (wpAny_seqItems hTI rfl ?_);show wpAny _ _ (Builtin.SmallTypes.ownedTupleIsFree (.ref z) >>= _) _ _ _;refine wpAny_bind ?_;unfold Builtin.SmallTypes.ownedTupleIsFree;refine wpAny_bind (wpAny_field hz rfl (x:=.none) rfl (wpAny_pure ?_));simp only[if_true]
 refine wpAny_bind (wpAny_rule ?_);refine wpAny_bind (wpAny_field hz rfl (x:=.ref TO) rfl ?_);refine wpAny_bind (wpAny_setField_rec hz (by simp) λzq hz1 hs1=>?_)
 replace hz1:IsZip zq z TI TO .ellipsis:=hz1
 refine wpAny_bind ?_;simp only[List.zipIdx_cons,List.zipIdx_nil,dR,List.forIn_nil]
 refine wpAny_bind (wpAny_bind (wpAny_onRaise ?_));show wpAny _ _ (Builtin.SmallTypes.nextOf (.ref i1) >>= _) _ _ _;cases hx:xs[k1]? with
 | none=>
  refine wpAny_bind (wpAny_nextOf_list_end hh (h1.extBut hs1.extBut D.i1z) (hl1.extBut hs1.extBut D.l1z) hx λh₂ e hs2 he=>?_)
  refine a9 he λoe hoe hce=>?_
  have hz2:IsZip h₂ z TI TO .ellipsis:=hs2 _ _ D.i1z.symm hz1;have hez:e≠z:=λx=>by subst x;rw[hz2] at hoe;replace hoe:=i5 hoe;subst hoe;simp at hce
  refine wpAny_setField_rec hz2 (by simp) λh3 z_ hs3=>hE h3 e (λc o c1 z_ c3 z_ x=>hs3.extBut _ _ c1 (hs2 _ _ c3 (hs1.extBut _ _ c1 x))) ⟨oe,hs3.extBut _ _ hez hoe,hce⟩
 | some x=>
  have hy:ys[k2]?=none:=by rcases hend with h | h;rw[hx] at h;exact B5 h;exact h
  refine wpAny_bind (wpAny_nextOf_list_item (h1.extBut hs1.extBut D.i1z) (hl1.extBut hs1.extBut D.l1z) hx λh₂ h12 hs2=>wpAny_pure ?_)
  have hTO2:IsPair h₂ TO a b:=hs2.extBut _ _ D.TOi1 (hs1.extBut _ _ D.TOz hTO);refine wpAny_bind (wpAny_seqItems hTO2 rfl ?_);refine wpAny_bind (wpAny_updateSeq_pair hTO2 λh3 hTO3 hs3=>?_)
  refine wpAny_bind (wpAny_letGo (wpAny_pure ?_));refine wpAny_bind (wpAny_bind (wpAny_onRaise ?_));show wpAny _ _ (Builtin.SmallTypes.nextOf (.ref i2) >>= _) _ _ _;refine wpAny_bind (bN2 hh (((h2.extBut hs1.extBut D.i2z).extBut hs2.extBut D.i12.symm).extBut hs3.extBut D.TOi2.symm)
   (((hl2.extBut hs1.extBut D.l2z).extBut hs2.extBut D.l2i1).extBut hs3.extBut D.l2TO) hy λh4 e hs4 he=>?_)
  refine a9 he λoe hoe hce=>?_
  have hz4:IsZip h4 z TI TO .ellipsis:=hs4 _ _ D.i2z.symm (hs3.extBut _ _ D.TOz.symm (hs2.extBut _ _ D.i1z.symm hz1));have hez:e≠z:=λx=>by subst x;rw[hz4] at hoe;replace hoe:=i5 hoe;subst hoe;simp at hce
  refine wpAny_setField_rec hz4 (by simp) λh5 z_ hs5=>hE h5 e (λc o c1 c2 c3 c4 x=>hs5.extBut _ _ c1 (hs4 _ _ c4 (hs3.extBut _ _ c2 (hs2.extBut _ _ c3 (hs1.extBut _ _ c1 x))))) ⟨oe,hs5.extBut _ _ hez hoe,hce⟩
theorem bH5{x y a b:Value}{Q:Option Value->Shared->Prop}(D:ZipApart z TI TO i1 i2 l1 l2)
  (hz:IsZip s.heap z TI TO .none) (hTI:IsPair s.heap TI (.ref i1) (.ref i2)) (hTO:IsPair s.heap TO a b)
  (h1:s.heap.IsListIter i1 l1 k1) (h2:s.heap.IsTupleIter i2 l2 k2) (hl1:s.heap.IsList l1 xs) (hl2:s.heap.IsTuple l2 ys) (hx:xs[k1]?=some x) (hy:ys[k2]?=some y)
  (hQ:∀ h',IsZip h' z TI TO (rawInt s.heap.objs.size)->IsPair h' TO x y->h'.IsListIter i1 l1 (k1+1)->h'.IsTupleIter i2 l2 (k2+1)->IsPair h' s.heap.objs.size x y->
   (∀ c o,c≠z->c≠TO->c≠i1->c≠i2->s.heap.get? c=some o->h'.get? c=some o)->Q (some (.ref s.heap.objs.size)) {s with heap:=h'}):wpAny (model prog w) A (pyNext (.ref z)) Q E s:=by
 have hT:s.TypeIs (.ref z) "zip":=⟨_,hz,rfl⟩;unfold pyNext;exact wpAny_bind (wpAny_attempt (wpAny_callSpecial?_slot (name:=Str.ofString "__next__") hT F.slot_zip_next (wpAny_call_entry F.slot_zip_next hT F.entry_zip_next
   (ci4 D hz hTI hTO h1 h2 hl1 hl2 hx hy λh' a1 a2 a3 a4 a5 a7=>wpAny_pure (hQ h' a1 a2 a3 a4 a5 a7)) (F.args_zip_next_1 _))))
theorem ci0{a b:Value}{Q:Option Value->Shared->Prop}(hh:A.handled=none)(D:ZipApart z TI TO i1 i2 l1 l2)
  (hz:IsZip s.heap z TI TO .none) (hTI:IsPair s.heap TI (.ref i1) (.ref i2)) (hTO:IsPair s.heap TO a b)
  (h1:s.heap.IsListIter i1 l1 k1) (h2:s.heap.IsTupleIter i2 l2 k2) (hl1:s.heap.IsList l1 xs) (hl2:s.heap.IsTuple l2 ys) (hend:xs[k1]?=none∨ys[k2]?=none)
  (hQ:∀ h',(∀ c o,c≠z->c≠TO->c≠i1->c≠i2->s.heap.get? c=some o->h'.get? c=some o)->Q none {s with heap:=h'}):wpAny (model prog w) A (pyNext (.ref z)) Q E s:=by
 have hT:s.TypeIs (.ref z) "zip":=⟨_,hz,rfl⟩;unfold pyNext;refine wpAny_bind (wpAny_attempt (wpAny_callSpecial?_slot (name:=Str.ofString "__next__") hT F.slot_zip_next
  (wpAny_call_entry F.slot_zip_next hT F.entry_zip_next (cd7 hh D hz hTI hTO h1 h2 hl1 hl2 hend λh' e hk he=>?_) (F.args_zip_next_1 _))))
 refine a9 he λo ho hc=>?_
 refine wpAny_bind (wpAny_isInstance (T:="StopIteration") (b:=true) ⟨o,ho,hc⟩ isSubtype_stop ?_);exact wpAny_pure (hQ _ hk)
abbrev zt1(h:Heap)(l1:Addr):Heap:=h.push {cls:=.type "list_iterator",data:=.fields #[.ref l1,.int 0 0]}
abbrev zt2(h:Heap)(l1 l2:Addr):Heap:=(zt1 h l1).push {cls:=.type "tuple_iterator",data:=.fields #[.ref l2,.int 0 0]}
abbrev zt3(h:Heap)(l1 l2:Addr):Heap:=(zt2 h l1 l2).push {cls:=.type "tuple",data:=.seq #[.ref h.objs.size,.ref (zt1 h l1).objs.size]}
abbrev zt4(h:Heap)(l1 l2:Addr):Heap:=(zt3 h l1 l2).push {cls:=.type "tuple",data:=.seq #[.none,.none]}
abbrev zt5(h:Heap)(l1 l2:Addr):Heap:=(zt4 h l1 l2).push {cls:=.type "zip",data:=.fields #[.none,.bool false,.bool false,.ref (zt2 h l1 l2).objs.size,.ref (zt3 h l1 l2).objs.size]}
theorem bD4(l1 l2:Addr)(xs ys:Array Value):Meets (Builtin.«zip.__new__» ⟨[.type "zip",.ref l1,.ref l2],[]⟩) (λz_ R s=>s.heap.IsList l1 xs/\s.heap.IsTuple l2 ys/\R (.ok (.ret (.ref (zt4 s.heap l1 l2).objs.size))) {s with heap:=zt5 s.heap l1 l2}):=
 .of_wp λprog w A R s h=>by
  obtain⟨hp,g,d,tk,os⟩:=s;refine k6 h λhl1 hl2 h=>?_
  have hsub:=sub_zip;have hL1:Heap.IsList (Shared.heap ⟨hp,g,d,tk,os⟩) l1 xs:=hl1;have hL2:Heap.IsTuple (Shared.heap ⟨hp.push {cls:=.type "list_iterator",data:=.fields #[.ref l1,.int 0 0]},g,d,tk,os⟩) l2 ys:=Heap.IsTuple.push hl2 _
  wp_walk using wpAny_pyIter_list hL1,wpAny_pyIter_tuple hL2
  exact⟨_,rfl,h⟩
theorem bd2{Q:Value->Shared->Prop}(hl1:s.heap.IsList l1 xs)(hl2:s.heap.IsTuple l2 ys)
  (h:∀ h',IsZip h' (s.heap.objs.size+4) (s.heap.objs.size+2) (s.heap.objs.size+3) .none->IsPair h' (s.heap.objs.size+2) (.ref s.heap.objs.size) (.ref (s.heap.objs.size+1))->
   IsPair h' (s.heap.objs.size+3) .none .none->h'.IsListIter s.heap.objs.size l1 0->h'.IsTupleIter (s.heap.objs.size+1) l2 0->(∀ c o,s.heap.get? c=some o->h'.get? c=some o)->Q (.ref (s.heap.objs.size+4)) {s with heap:=h'}):wpAny (model prog w) A (call (.type "zip") [.ref l1,.ref l2]) Q E s:=by
 refine callType_new F.called_zip (by decide) (F.typeCall_zip_2 _ _) (F.newCall_zip_2 _ _) (λobj=>F.args_object_init_3 obj _ _) F.entry_zip_new (bD4 l1 l2 xs ys) ⟨hl1,hl2,?_⟩
 have z1:(zt1 s.heap l1).objs.size=s.heap.objs.size+1:=bw ..;have z2:(zt2 s.heap l1 l2).objs.size=s.heap.objs.size+2:=by rw[bw,z1]
 have z3:(zt3 s.heap l1 l2).objs.size=s.heap.objs.size+3:=by rw[bw,z2]
 have z4:(zt4 s.heap l1 l2).objs.size=s.heap.objs.size+4:=by rw[bw,z3]
 have u:∀ {h:Heap} {o:Obj} {c:Addr} {x:Obj},h.get? c=some x->(h.push o).get? c=some x:=λe=>ag _ e
 have g5:(zt5 s.heap l1 l2).get? (zt4 s.heap l1 l2).objs.size=some _:=an _ rfl;have g4:(zt5 s.heap l1 l2).get? (zt3 s.heap l1 l2).objs.size=some _:=u (an _ rfl);have g3:(zt5 s.heap l1 l2).get? (zt2 s.heap l1 l2).objs.size=some _:=u (u (an _ rfl));have g2:(zt5 s.heap l1 l2).get? (zt1 s.heap l1).objs.size=some _:=u (u (u (an _ rfl)));have g1:(zt5 s.heap l1 l2).get? s.heap.objs.size=some _:=u (u (u (u (an _ rfl))));show _/\_;rw[z2,z3,z4] at g5;rw[z1,z2] at g3;rw[z3] at g4;rw[z1] at g2;rw[z4];exact⟨⟨_,g5,rfl⟩,h _ g5 g3 g4 ⟨_,g1,rfl,rfl⟩ ⟨_,g2,rfl,rfl⟩ λc o x=>u (u (u (u (u x))))⟩
end
section
variable{g:G}{F:Blk}{Z:List (Option V)}{Y:Hp}
noncomputable def aa6(Q:d6)(J:Nat->List (Option V)->Hp->Prop)(i:Nat):d6:=λf Z Y=>match f with
 | .next=>J i Z Y
 | .cont=>J i Z Y
 | .brk=>Q .next Z Y
 | .ret v=>Q (.ret v) Z Y
structure ZipK(a:Addr)(l m:List V)(Z:List (Option V))(Y:Hp):Prop where
 la:Y a=some (.lst l)
 refs:∀ x∈l,∃ c o,x=.ref c/\Y c=some o
 nz:NZ Y
 nr:NR Z
def ai5(g:G)(F:Blk)(A:Around)(env:Env)(l m:List V)(a b:Addr)(J:Nat->List (Option V)->Hp->Prop)(z TI TO i1 i2:Addr)(Y:Hp)(s:Shared)(n:Nat)(s':Shared):Prop:=
 ∀ P_:Prop,(∀ (i:Nat) (Z':List (Option V)) (Y':Hp) (u v:Value) (h1:i+n=min l.length m.length+1) (h2:i<=min l.length m.length) (h3:J i Z' Y') (hz:IsZip s'.heap z TI TO .none) (hTI:IsPair s'.heap TI (.ref i1) (.ref i2)) (hTO:IsPair s'.heap TO u v) (hu:u=.none∨∃ c,u=.ref c/\V.ref c∈l)
  (g1:s'.heap.IsListIter i1 a i) (g2:s'.heap.IsTupleIter i2 b i) (gm:Rep s'.heap (.ref b) (.tup m)) (h5:∀ w∈[z,TO,i1,i2],Y' w=none) (h6:Inv g F A env Z' Y' s') (h7:Step (inF A) (i9 env) Y Y' s s'),P_)->P_
theorem M1{o p:Obj}{x y:String}(e:some o=some p)(ho:o.cls=.type x)(hp:p.cls=.type y):x=y:=by
 replace e:=i5 e;subst e
 have q:=ho.symm.trans hp;injection q
theorem u8.noTup{h:Heap}{c:Addr}{o:AObj}(x:u8 g h c o)(us:Array Value)(m:Nat):h.get? c≠some {cls:=.type "tuple",data:=.seq us m}:=λe=>by
 cases o with
 | lst l=>obtain⟨vs,⟨n,hp⟩,_⟩:=x;exact absurd (M1 (hp.symm.trans e) rfl rfl) (by decide)
 | di l=>refine p9 (n7.has x) λes ep q=>?_;exact absurd (M1 (q.symm.trans e) rfl rfl) (by decide)
 | ds l=>refine p9 (n7.has x) λes ep q=>?_;exact absurd (M1 (q.symm.trans e) rfl rfl) (by decide)
 | ex y=>refine T3 x λC oe vs z_ q hc z_=>?_;rw[q] at e;replace e:=i5 e;subst e;cases hc
theorem ay3{h h':Heap}{l:List V}{a b z TI TO i1 i2:Addr}{m:List V}{Z:List (Option V)}{u v:Value}{j k:Nat}(S:Sim g Y h)(K:ZipK a l m Z Y)(hz:IsZip h z TI TO .none)(hTO:IsPair h TO u v)(hu:u=.none∨∃ c,u=.ref c/\V.ref c∈l)
  (g1:h.IsListIter i1 a j) (g2:h.IsTupleIter i2 b k) (e:M4 [z,TO,i1,i2] h h'):TupsZ TO h h':=by
 refine⟨λc vs n hc ho=>e c _ (λq=>?_) ho,λvs n ho=>?_⟩
 ·refine i8 g1 λo1 e1 c1 d1=>?_
  refine i8 g2 λo2 e2 c2 d2=>?_
  rcases am.mp q with rfl | q
  ·exact absurd (M1 (hz.symm.trans ho) rfl rfl) (by decide)
  rcases am.mp q with rfl | q
  ·exact hc rfl
  rcases am.mp q with rfl | q
  ·exact absurd (M1 (e1.symm.trans ho) c1 rfl) (by decide)
  rcases am.mp q with rfl | q
  ·exact absurd (M1 (e2.symm.trans ho) c2 rfl) (by decide)
  cases q
 ·have ho':=hTO.symm.trans ho
  cases ho';refine⟨u,v,rfl,hu.imp id λq=>?_⟩
  refine a9 q λc q1_ hm=>?_;try clear q;subst q1_
  refine j6 (K.refs _ hm) λc' o hc hs=>?_
  cases hc;exact⟨c,rfl,λus m=>(S.objs c o hs).1.noTup us m⟩
theorem ag2{l:List V}(h:nzL l=true):∀ {i:Nat} {x:V},l[i]?=some x->nz x=true:=by
 induction l with
 | nil=>intro i x e;cases e
 | cons y l ih=>
  intro i x e;refine c5 (aM.mp (show(Internal.nz y&&nzL l)=true from h)) λq1 q2=>?_
  cases i with
  | zero=>replace e:=i5 e;subst e;exact q1
  | succ i=>exact ih q2 e
theorem bU2{N a b:Nat}(ha:a<N)(hb:b<N):ZipApart (N+4) (N+2) (N+3) N (N+1) a b:=by
 constructor<;>lia
theorem aK2{N:Nat}:∀ c∈[N+4,N+3,N,N+1],N<=c:=λc hc=>by simp at hc;lia
theorem ao6{z TO i1 i2 c:Addr}(hc:c∉[z,TO,i1,i2]):c≠z/\c≠TO/\c≠i1/\c≠i2:=by simpa using hc
theorem bS8{Q:d6}{X:j3}{es:List Expr}{k:Nat}{tp:Pos}{body:List Stmt}{A:Around}{env:Env}{s:Shared}{l m:List V}{a b z TI TO i1 i2:Addr}{J:Nat->List (Option V)->Hp->Prop}(hh:A.handled=none)(D:ZipApart z TI TO i1 i2 a b)
  (f0:∀ c∈[z,TO,i1,i2],s.heap.get? c=none) (hown:∀ c∈[z,TO,i1,i2],¬ i9 env c) (hbase:∀ c∈[z,TO,i1,i2],g.h₀.get? c=none) (hnf:∀ c∈[z,TO,i1,i2],¬ inF A c)
  (hturn:∀ i x y Z' Y',l[i]?=some x->m[i]?=some y->J i Z' Y'->ZipK a l m Z' Y'/\Asg g F (.Tuple es k tp) (.tup [x,y]) Z' Y' (λZ''=>Exs g F body Z'' Y' (aa6 Q J (i+1)) X))
  (hnm:Internal.nz (.tup m)=true) (hend:∀ Z' Y',J (min l.length m.length) Z' Y'->ZipK a l m Z' Y'/\Q .next Z' Y') {QQ:Except Value Flow->Shared->Prop} (kO:∀ f s',H8 g F A env Y s Q f s'->QQ (.ok f) s') (kE:∀ e s',notedBy (model g.prog g.w) A env (λx s'=>cameBackBy (model g.prog g.w) A env (A4 g F A env Y s X) x s') e s'->notedBy (model g.prog g.w) A env (λx s'=>QQ (.error x) s') e s') {n₀:Nat} {sy:Shared} (h₀:ai5 g F A env l m a b J z TI TO i1 i2 Y s n₀ sy) :
  codeAny (model g.prog g.w) A (.forLoop (.Tuple es k tp) (.ref z) body [] env) QQ sy:=by
 refine az8 (ai5 g F A env l m a b J z TI TO i1 i2 Y s) ?_ n₀ h₀;rintro n s' hh_;refine hh_ _ ?_;clear hh_;rintro i Z' Y' u v hn hi hJ' kz kTI kTO ku k1 k2 km hY' I' st';by_cases hlt:i<min l.length m.length
 ·have hil:i<l.length:=aY hlt (aU _ _)
  have him:i<m.length:=aY hlt (bP _ _);obtain⟨K,asg⟩:=hturn i _ _ _ _ (ae hil) (ae him) hJ';obtain⟨xs',⟨na',oa'⟩,rl'⟩:=(I'.sim.objs a _ K.la).1;refine l6 km.ofTup λb' ys' nb' eb ob' rm'=>?_
  cases eb;obtain⟨x,hx,rx⟩:=rl'.get (ae hil);obtain⟨y,hy,ry⟩:=rm'.get (ae him);refine bH5 D kz kTI kTO k1 k2 (xs:=xs') (ys:=ys') ⟨_,oa',rfl,_,rfl⟩ ⟨_,ob',rfl,_,rfl⟩ (by rw[<- av];exact hx) (by rw[<- av];exact hy) λh1 p1 p2 p3 p4 p5 kp=>?_
  refine wpAny_letOwnedTupleGo_zip p1 λh2 r1 sb=>?_
  have ex:M4 [z,TO,i1,i2] s'.heap h2:=λc o hc e=>by
   refine R6 (ao6 hc) λq1 q2 q3 q4=>?_
   exact sb.extBut c o q1 (kp c o q1 q2 q3 q4 e)
  have tz:TupsZ TO s'.heap h2:=ay3 I'.sim K kz kTO ku k1 k2 ex;have I1:Inv g F A env Z' Y' {s' with heap:=h2}:=I'.nz (tk:=s'.toks) K.nz K.nr ex tz hY' hown hbase hnf
  have st1:Step (inF A) (i9 env) Y Y' s {s' with heap:=h2}:=st'.nz (tk:=s'.toks) ex f0
  have hTz:s'.heap.objs.size≠z:=cQ (aE kz);have rT:Rep h2 (.ref s'.heap.objs.size) (.tup [l[i],m[i]]):=.tup (sb.extBut _ _ hTz p5) (.cons (rx.nz tz (ag2 (K.nz a _ K.la) (ae hil))) (.cons (ry.nz tz (ag2 ((aM.mp (show(!Internal.zp m&&nzL m)=true from hnm)).2) (ae him))) .nil))
  have mz:z∈[z,TO,i1,i2]:=.head _;have m1:i1∈[z,TO,i1,i2]:=.tail _ (.tail _ (.head _));have m2:i2∈[z,TO,i1,i2]:=.tail _ (.tail _ (.tail _ (.head _)));have t1:IsPair h2 TI (.ref i1) (.ref i2):=ex TI _ (by simp;exact⟨D.TIz,D.TITO,D.TIi1,D.TIi2⟩) kTI
  have t2:IsPair h2 TO x y:=sb.extBut _ _ D.TOz p2;refine i8 p3 λo1 e1 c1 d1=>?_
  refine i8 p4 λo2 e2 c2 d2=>?_
  have e1':=sb.extBut _ _ D.i1z e1;have e2':=sb.extBut _ _ D.i2z e2;have hu':x=.none∨∃ c,x=.ref c/\V.ref c∈l:=by
   refine j6 (K.refs _ (bv hil)) λc o hc z_=>?_
   rw[hc] at rx;exact .inr ⟨c,rx.ofRef,hc▸bv hil⟩
  refine asg.run A env _ _ _ _ I1 hh rT λs3 ρ3 I3 st3 hex=>?_
  have st13:=st1.trans st3;refine wpAny_mono (hex A env s3 I3) (λfl s4 p4=>?_) λe s4 p=>kE _ _ (U8 (p.step st13))
  refine p4 _ ?_;clear p4;rintro f' ρ4 Y4 hf I4 st4 hq4;have st14:=st13.trans st4;have tu:=st3.tups.trans st4.tups;have z3:=st3.exact r1 (hY' z mz) (hown z mz) (hnf z mz);have z4:=st4.exact z3 (hY' z mz) (hown z mz) (hnf z mz);have y3:=st3.exact e1' (hY' i1 m1) (hown i1 m1) (hnf i1 m1);have y4:=st4.exact y3 (hY' i1 m1) (hown i1 m1) (hnf i1 m1);have w3:=st3.exact e2' (hY' i2 m2) (hown i2 m2) (hnf i2 m2);have w4:=st4.exact w3 (hY' i2 m2) (hown i2 m2) (hnf i2 m2);have hY4:∀ w∈[z,TO,i1,i2],Y4 w=none:=λw hw=>by
   have h0:=hY' w hw;simp at hw
   rcases hw with rfl | rfl | rfl | rfl
   ·exact st4.new _ _ z3 h0
   ·exact st4.new _ _ (st3.tups _ _ _ t2) h0
   ·exact st4.new _ _ y3 h0
   ·exact st4.new _ _ w3 h0
  have fin:J (i+1) ρ4 Y4->ai5 g F A env l m a b J z TI TO i1 i2 Y s (n-1) s4:=λhj=>
   (λz_ k_=>k_ (i+1) ρ4 Y4 x y (by lia) hlt hj z4 (tu _ _ _ t1) (tu _ _ _ t2) hu' ⟨o1,y4,c1,d1⟩ ⟨o2,w4,c2,d2⟩ ((km.nz tz hnm).mono tu) hY4 I4 st14)
  cases hf with
  | next=>exact⟨n-1,by lia,fin hq4⟩
  | cont=>exact⟨n-1,by lia,fin hq4⟩
  | brk=>exact kO _ _ (λz_ k_=>k_ .next ρ4 Y4 .next I4 st14 hq4)
  | ret r=>exact kO _ _ (λz_ k_=>k_ (.ret _) ρ4 Y4 (.ret r) I4 st14 hq4)
 ·obtain rfl:i=min l.length m.length:=by lia
  refine c5 (hend _ _ hJ') λK hQ=>?_
  obtain⟨xs',⟨na',oa'⟩,rl'⟩:=(I'.sim.objs a _ K.la).1;refine l6 km.ofTup λb' ys' nb' eb ob' rm'=>?_
  cases eb;have hl1:=rl'.length;have hl2:=rm'.length;rw[ao] at hl1 hl2;refine ci0 hh D kz kTI kTO k1 k2 (xs:=xs') (ys:=ys') ⟨_,oa',rfl,_,rfl⟩ ⟨_,ob',rfl,_,rfl⟩ ?_ λh2 kp=>wpAny_execs_nil ?_
  ·by_cases q:l.length<=m.length
   ·exact .inl (dW (by lia))
   ·exact .inr (dW (by lia))
  ·have ex:M4 [z,TO,i1,i2] s'.heap h2:=λc o hc e=>by
    refine R6 (ao6 hc) λq1 q2 q3 q4=>?_
    exact kp c o q1 q2 q3 q4 e
   exact kO _ _ (λz_ k_=>k_ .next Z' Y' .next (I'.nz (tk:=s'.toks) K.nz K.nr ex (ay3 I'.sim K kz kTO ku k1 k2 ex) hY' hown hbase hnf) (st'.nz (tk:=s'.toks) ex f0) hQ)
def aM6(g:G)(F:Blk)(es:List Expr)(k:Nat)(tp:Pos)(body:List Stmt)(Q:d6)(X:j3)(Z:List (Option V))(vs:List V)(Y:Hp):Prop:=
 ∀ P_:Prop,(∀ (a:Addr) (l m:List V) (e:vs=[.ref a,.tup m]) (la:Y a=some (.lst l)) (hnm:Internal.nz (.tup m)=true) (J:Nat->List (Option V)->Hp->Prop) (h0:J 0 Z Y)
  (ht:∀ i x y Z' Y',l[i]?=some x->m[i]?=some y->J i Z' Y'->ZipK a l m Z' Y'/\Asg g F (.Tuple es k tp) (.tup [x,y]) Z' Y' (λZ''=>Exs g F body Z'' Y' (aa6 Q J (i+1)) X)) (he:∀ Z' Y',J (min l.length m.length) Z' Y'->ZipK a l m Z' Y'/\Q .next Z' Y'),P_)->P_
theorem bd1{Q:d6}{X:j3}{es:List Expr}{k:Nat}{tp np cp pos:Pos}{ea eb:Expr}{body:List Stmt}{zn:Str}(hq:F.q=true)
  (hk:F.sc.names.lookup zn=some .globalImplicit) (hg:g.mg zn=none) (hb:g.mb zn=some (.type "zip")) (hd:(zn==("__debug__" : Str))=false)
  (h:Evs g F [ea,eb] Z Y (aM6 g F es k tp body Q X Z) (λx zs=>X x Z zs)) :
  Ex g F (.For (.Tuple es k tp) (.Call (.Name zn np) [ea,eb] [] cp) body [] pos) Z Y Q X:=(λA env s I=>by
 have hh:=I.quiet hq;refine wpAny_For (wpAny_Call_ofName (Calls.Name_function_global I.fn (by show env.scope.names.lookup zn=_;rw[I.scope];exact hk) (aK (by rw[I.glob];exact g.ns.keeps I.sim.stays) hg (by rw[I.bltn];exact g.nb.keeps I.sim.stays) hb ?_) hd)) (λx=>rfl)
 refine c5 (h A env s cp I) λhw hp=>?_
 refine callWith_excType hp (x9 hp (wpAny_mono hw (λvs sv p=>?_) λz_ z_ p=>p.toS))
 refine p _ ?_;clear p;rintro Vs zs rs I1 st1 p;refine p _ ?_;clear p;rintro a l m rfl la hnm J hJ hturn hend;refine g7 rs.two λva vb q1_ ra rb=>?_;subst q1_
 obtain rfl:=ra.ofRef;refine l6 rb.ofTup λb ys nb q1_ ob rm=>?_;subst q1_
 obtain⟨xs,⟨na,oa⟩,rl⟩:=(I1.sim.objs a _ la).1;refine bd2 (xs:=xs) (ys:=ys) ⟨_,oa,rfl,_,rfl⟩ ⟨_,ob,rfl,_,rfl⟩ λh' hz hTI hTO hi1 hi2 keep=>?_
 generalize hN:sv.heap.objs.size=N at *;have lt:∀ {c o},sv.heap.get? c=some o->c<N:=λe=>hN▸aE e
 have D:=bU2 (lt oa) (lt ob);have fresh:∀ c,N<=c->sv.heap.get? c=none:=λc hc=>by
  cases e:sv.heap.get? c with
  | none=>rfl
  | some o=>exact absurd (lt e) (cf.mpr hc)
 have f0:∀ c∈[N+4,N+3,N,N+1],s.heap.get? c=none:=λc hc=>by
  cases e:s.heap.get? c with
  | none=>rfl
  | some o=>refine a9 (st1.dom _ o e) λo' ho' z_=>?_;rw[fresh c (aK2 c hc)] at ho';exact f9 ho'
 have hY1:∀ c∈[N+4,N+3,N,N+1],zs c=none:=λc hc=>by
  cases e:zs c with
  | none=>rfl
  | some o=>
   refine c6 ((I1.sim.objs c o e).1.has) λob e'=>?_
   rw[fresh c (aK2 c hc)] at e';exact f9 e'
 have hown:∀ c∈[N+4,N+3,N,N+1],¬ i9 env c:=λc hc=>I.notOwn (f0 c hc)
 have hbase:∀ c∈[N+4,N+3,N,N+1],g.h₀.get? c=none:=λc hc=>I.notBase (f0 c hc)
 have hnf:∀ c∈[N+4,N+3,N,N+1],¬ inF A c:=λc hc=>I.notFr (f0 c hc)
 have gr:Step (inF A) f2 zs zs sv {sv with heap:=h'}:=Step.grow (tk:=sv.toks) keep
 have sw:Inv g F A env Z zs {sv with heap:=h'}:=I1.keep gr (I1.sim.grow keep)
 have st2:Step (inF A) f2 Y zs s {sv with heap:=h'}:=st1.trans gr
 clear gr;refine wpAny_pyIter_zip hz ?_;exact bS8 hh D f0 hown hbase hnf hturn hnm hend (λz_ z_ p=>p) (λz_ z_ p=>p) (n₀:=min l.length m.length+1)
  (λz_ k_=>k_ 0 Z zs .none .none (dz _) (ay _) hJ hz hTI hTO (.inl rfl) hi1 hi2 (rb.mono (λc vs n e=>keep c _ e)) hY1 sw (st2.mono λz_ h=>h.elim)))
end
noncomputable def rl(scope sc:Scope):Scope:=
 {scope with names:=scope.names.map fun(n,k)=>if (k==.free&&sc.kind==.function&&sc.names.lookup n==some .cell) then(n,.cell) else(n,k)}
noncomputable def u3(scope:Scope):List Str:=(scope.names.filter (·.2==.free)).map (·.1)
noncomputable def F9(F:Blk)(scope:Scope)(x:Str)(js:List Nat):Bool:=
 scope.names.all (λy=>y.2 != .cell)&&(scope.kind==.function)&&(scope.names.all λy=>y.2 != .local||scope.names.lookup y.1==some .local)&&(scope.names.lookup x==some .local) &&
 decide (x::u3 scope).Nodup&&((u3 scope).all λy=>F.sc.names.lookup y==some .cell&&scope.names.lookup y==some .free)&&decide (js.map (λj=>F.vars[j]?)=(u3 scope).map some)
noncomputable def C9(F:Blk)(scope:Scope)(x:Str):Blk:=⟨rl scope F.sc,x::u3 scope,F.d,F.q⟩
noncomputable def x5(Z:List (Option V))(js:List Nat):List (Option V):=js.map λj=>(Z[j]?).join
noncomputable def A2(cells:List (Str×Addr)):List (Str×NameKind)->List (Str×Addr)->List (Str×Addr)
 | [],acc=>acc
 | (n,k)::r,acc=>A2 cells r (if k==.free then(n,(cells.lookup n).getD 0)::acc else acc)
theorem bE7{scope:Scope}{env:Env}(h:∀ y∈scope.names,y.2=.free->(env.cells.lookup y.1).isSome=true):closureFor scope env=pure (A2 env.cells scope.names []):=by
 unfold closureFor;have:∀ (names:List (Str×NameKind)) (acc:List (Str×Addr)),(∀ y∈names,y.2=.free->(env.cells.lookup y.1).isSome=true)->
   (forIn names acc λx cs=>if (x.2==NameKind.free)=true then(do let c <- cellOf env x.1;pure (ForInStep.yield ((x.1,c)::cs))) else pure (ForInStep.yield cs))=(pure (A2 env.cells names acc):Sem (List (Str×Addr))):=by
  intro names;induction names with
  | nil=>intro acc _;rfl
  | cons y r ih=>
   intro acc hy;obtain⟨n,k⟩:=y;rw[dR];cases hk:k==NameKind.free with
   | false=>
    simp only[hk,Bool.false_eq_true,if_false,pure_bind,A2]
    exact ih acc λy hy'=>hy y (aG _ hy')
   | true=>
    obtain⟨c,hc⟩:=bA.mp (hy (n,k) be (by simpa using hk))
    have hcell:cellOf env n=pure c:=by unfold cellOf;rw[hc]
    simp only[hk,if_true,hcell,pure_bind,A2,hc,Option.getD_some]
    exact ih _ λy hy'=>hy y (aG _ hy')
 have e:=this scope.names [] h;simp only[bind_pure]
 exact e
theorem bT5{cells:List (Str×Addr)}{x:Str}{c:Addr}{names:List (Str×NameKind)}:∀ {acc:List (Str×Addr)},(∀ y c',acc.lookup y=some c'->cells.lookup y=some c')->(∀ y∈names,y.2=.free->(cells.lookup y.1).isSome=true)->
  (A2 cells names acc).lookup x=some c->cells.lookup x=some c:=by
 induction names with
 | nil=>intro acc ha hn h;exact ha x c h
 | cons p r ih=>
  obtain⟨n,k⟩:=p;intro acc ha hn h;refine ih (acc:=if k==.free then(n,(cells.lookup n).getD 0)::acc else acc) (λy c' e=>?_) (λy hy=>hn y (aG _ hy)) h
  by_cases hk:(k==.free)=true
  ·rw[if_pos hk,aR] at e
   cases hy:y==n with
   | true=>
    rw[hy] at e;refine c6 (bA.mp (hn (n,k) be (beq_iff_eq.mp hk))) λc2 hc2=>?_
    rw[hc2] at e
    replace e:=i5 e;subst e
    rw[beq_iff_eq.mp hy,hc2];rfl
   | false=>rw[hy] at e;exact ha y c' e
  ·rw[if_neg hk] at e;exact ha y c' e
theorem bW4{cells:List (Str×Addr)}{x:Str}{names:List (Str×NameKind)}:∀ {acc:List (Str×Addr)},((acc.lookup x).isSome=true∨∃ y∈names,y.1=x/\y.2=.free)->((A2 cells names acc).lookup x).isSome=true:=by
 induction names with
 | nil=>
  intro acc h;rcases h with h | ⟨y,hy,_⟩
  ·exact h
  ·cases hy
 | cons p r ih=>
  obtain⟨n,k⟩:=p;intro acc h;refine ih (acc:=if k==.free then(n,(cells.lookup n).getD 0)::acc else acc) ?_
  rcases h with h | ⟨y,hy,e1,e2⟩
  ·left
   by_cases hk:(k==.free)=true
   ·rw[if_pos hk,aR]
    cases x==n with
    | true=>rfl
    | false=>exact h
   ·rw[if_neg hk];exact h
  ·rcases am.mp hy with rfl | hy
   ·left
    have e1':n=x:=e1;have e2':k=.free:=e2;subst e1' e2';rw[if_pos (beq_self_eq_true _),aR,beq_self_eq_true];rfl
   ·exact .inr ⟨y,hy,e1,e2⟩
theorem bK6{scope sc:Scope}{x:Str}{k:NameKind}{names:List (Str×NameKind)}:names.lookup x=some k->
  (names.map fun(n,k)=>if (k==NameKind.free&&sc.kind==.function&&sc.names.lookup n==some .cell) then(n,NameKind.cell) else(n,k)).lookup x =
   some (if (k==NameKind.free&&sc.kind==.function&&sc.names.lookup x==some .cell) then .cell else k):=by
 induction names with
 | nil=>intro h;cases h
 | cons p r ih=>
  obtain⟨n,k'⟩:=p;intro h;rw[aR] at h;show cZ x ((if (k'==NameKind.free&&sc.kind==.function&&sc.names.lookup n==some .cell)=true then(n,NameKind.cell) else(n,k'))::_)=_
  have e1:∀ (v:NameKind) (l:List (Str×NameKind)),cZ x ((n,v)::l)=if (x==n)=true then some v else cZ x l:=λv l=>by rw[aR];cases x==n<;>rfl
  have e0:∀ (b:Bool) (l:List (Str×NameKind)),cZ x ((if b=true then(n,NameKind.cell) else(n,k'))::l)=if (x==n)=true then some (if b=true then .cell else k') else cZ x l:=λb l=>by
   cases b
   ·exact e1 _ _
   ·exact e1 _ _
  rw[e0];cases hx:x==n with
  | true=>
   rw[hx] at h;replace h:=i5 h;subst h;rw[beq_iff_eq.mp hx];rfl
  | false=>
   rw[hx] at h;exact ih h
def D3(g:G)(F:Blk)(ifs:List Expr)(Z:List (Option V))(Y:Hp)(Q:Bool->Hp->Prop):Prop:=
 ∀ A env s (E:Value->Shared->Prop),Inv g F A env Z Y s->wpAny (model g.prog g.w) A (forIn ifs true λc r=>if r=true then do let ok <- isTrue c env (eval c env);pure (ForInStep.yield ok) else pure (ForInStep.yield r)) (G5 g F A env Z Y s Q) E s
noncomputable def noX:Str->Hp->Prop:=λz_ z_=>False
theorem aZ7{g:G}{F:Blk}{Z:List (Option V)}{Y:Hp}{Q:Bool->Hp->Prop}(h:Q true Y):D3 g F [] Z Y Q:=(λA env s E I=>wpAny_tests_nil (λz_ k_=>k_ Y I Step.refl h))
theorem bo3{g:G}{F:Blk}{c:Expr}{Z:List (Option V)}{Y:Hp}{Q:Bool->Hp->Prop}(h:Tst g F c Z Y Q noX):D3 g F [c] Z Y Q:=(λA env s E I=>wpAny_tests_one (wpAny_mono (h A env s I) (λz_ z_ p=>p) λz_ z_ p=>p.no))
section
variable{g:G}{F:Blk}{Z:List (Option V)}{Y:Hp}{X:Str->Hp->Prop}
def CK(St:Nat->Heap->Prop)(D It:Addr)(i:Nat)(acc:List V)(Y:Hp)(h:Heap):Prop:=
 ∀ P_:Prop,(∀ (ys:Array Value) (h5:St i h) (h6:h.PlainList D ys) (h7:d5 h ys.toList acc) (h9:Y It=none) (h10:Y D=none),P_)->P_
def ac7(g:G)(A:Around)(L:List V)(J:List V->List V->Hp->Prop)(St:Nat->Heap->Prop)(D C It:Addr)(Y:Hp)(s:Shared)(n:Nat)(s':Shared):Prop:=
 ∀ P_:Prop,(∀ (i:Nat) (acc:List V) (Y':Hp) (m':Str->Option Value) (h1:i+n=L.length+1) (h2:i<=L.length) (h3:acc.length<=i) (h4:J (L.drop i) acc Y') (h5:CK St D It i acc Y' s'.heap) (h8:s'.heap.Ns C m')
   (h11:Y' C=none) (h12:Sim g Y' s'.heap) (h13:Step (inF A) f2 Y Y' s s'),P_)->P_
section
variable{A:Around}{L:List V}{K:Hp->Prop}{St:Nat->Heap->Prop}{D It c:Addr}{i j:Nat}{acc:List V}{Y':Hp}{h h':Heap}
theorem CK.but(k:CK St D It i acc Y h)(W:IterOK g A It L K St)(e:Heap.ExtBut c h h')(t:l8 h h')(n1:It≠c)(n2:D≠c):CK St D It i acc Y h':=by
 refine k _ ?_;clear k;rintro ys a ⟨n,b⟩ q d f;exact(λz_ k_=>k_ ys (W.frame _ _ _ a (λo ho=>e It o n1 ho) t) ⟨n,e D _ n2 b⟩ (q.mono t) d f)
theorem CK.on(k:CK St D It i acc Y h)(e:Heap.ExtBut It h h')(t:l8 h h')(n:D≠It)(a':St j h'):CK St D It j acc Y h':=by
 refine k _ ?_;clear k;rintro ys a ⟨n',b⟩ q d f;exact(λz_ k_=>k_ ys a' ⟨n',e D _ n b⟩ (q.mono t) d f)
theorem CK.step{s s':Shared}(k:CK St D It i acc Y s.heap)(W:IterOK g A It L K St)(st:Step (inF A) f2 Y Y' s s')(n1:¬ inF A It)(n2:¬ inF A D):CK St D It i acc Y' s'.heap:=by
 refine k _ ?_;clear k;rintro ys a ⟨n,b⟩ q d f;refine j6 (W.obj _ _ a) λo z_ ho z_=>?_
 exact(λz_ k_=>k_ ys (W.frame _ _ _ a (λo' ho'=>by rw[ho] at ho';replace ho':=i5 ho';subst ho';exact st.thing d ho n1) st.tups) ⟨n,st.thing f b n2⟩ (q.mono st.tups) (st.new It _ ho d) (st.new D _ b f))
end
theorem Ya3{scope:Scope}{x:Str}{js:List Nat}(ok:F9 F scope x js=true):(∀ y∈scope.names,y.2≠.cell)/\scope.kind=.function/\(∀ y∈scope.names,y.2≠.local∨scope.names.lookup y.1=some .local)/\scope.names.lookup x=some .local/\(x::u3 scope).Nodup/\(∀ y∈u3 scope,F.sc.names.lookup y=some .cell/\scope.names.lookup y=some .free)/\js.map (λj=>F.vars[j]?)=(u3 scope).map some:=by
 unfold F9 at ok;simp only[aQ,decide_eq_true_eq,aB,ct,beq_iff_eq,bne_iff_ne] at ok
 obtain⟨⟨⟨⟨⟨⟨hcell,hkind⟩,hloc⟩,hx⟩,hnd⟩,hfr⟩,hjs⟩:=ok;exact⟨hcell,hkind,hloc,hx,hnd,hfr,hjs⟩
theorem ay1{scope:Scope}{x:Str}{js:List Nat}(ok:F9 F scope x js=true){A:Around}{env:Env}{s:Shared}(I:Inv g F A env Z Y s):∀ y∈scope.names,y.2=.free->(env.cells.lookup y.1).isSome=true:=by
 refine W0 (Ya3 ok) λhcell hkind hloc hx hnd hfr hjs=>?_
 refine a9 I.loc.ns λm0 hn0 hv0=>?_
 have freeCell:∀ y∈u3 scope,∃ (k j:Nat) (c:Addr) (r:Option Value),js[k]?=some j/\(u3 scope)[k]?=some y/\F.vars[j]?=some y/\env.cells.lookup y=some c:=λy hy=>by
  obtain⟨k,hk⟩:=List.getElem?_of_mem hy;have h1:(js.map (λj=>F.vars[j]?))[k]?=some (some y):=by rw[hjs,aq,hk];rfl
  rw[aq] at h1;refine a9 (aA.mp h1) λj hj hj'=>?_
  have hlt:j<Z.length:=by rw[I.loc.len];exact(aj.mp hj').1
  rcases hv0 j y _ hj' (ae hlt) with ⟨hkd,_⟩ | ⟨_,c,r,hc,_⟩
  ·have:=(hfr y hy).1
   rw[show env.kindOf y=F.sc.names.lookup y from by unfold Env.kindOf;rw[I.scope],this] at hkd
   cases hkd
  ·exact⟨k,j,c,r,hj,hk,hj',hc⟩
 have hfreeIn:∀ y∈scope.names,y.2=.free->y.1∈u3 scope:=λy hy e=>ai.mpr ⟨y,cu.mpr ⟨hy,by simp[e]⟩,rfl⟩
 have hsome:∀ y∈scope.names,y.2=.free->(env.cells.lookup y.1).isSome=true:=λy hy e=>by
  refine ca9 (freeCell y.1 (hfreeIn y hy e)) λz_ z_ c z_ z_ z_ z_ hc=>?_
  rw[hc];rfl
 exact hsome
theorem bb3{scope:Scope}{x:Str}{js:List Nat}(ok:F9 F scope x js=true){A:Around}{env:Env}{s:Shared}{C:Addr}{v:V}{rv:Value}{Y':Hp}{s':Shared}{m':Str->Option Value}(I:Inv g F A env Z Y s)(sm:Sim g Y' s'.heap)(st':Step (inF A) f2 Y Y' s s')(hns':s'.heap.Ns C m')(hmx:m' x=some rv)(hrv:Rep s'.heap rv v)(hYC:Y' C=none)(f0C:s.heap.get? C=none):Inv g (C9 F scope x) A (compEnvC scope (A2 env.cells scope.names []) C env) (some v::x5 Z js) Y' s':=by
 refine W0 (Ya3 ok) λhcell hkind hloc hx hnd hfr hjs=>?_
 have hsome:=ay1 ok I;have clk:∀ y c,(A2 env.cells scope.names []).lookup y=some c->env.cells.lookup y=some c:=λy c e=>bT5 (λz_ z_ e=>by exact f9 e) hsome e
 have hkx:(compEnvC scope (A2 env.cells scope.names []) C env).kindOf x=some .local:=by
  show(relabel scope env).names.lookup x=_;exact lookup_relabel_local hx
 have hky:∀ y∈u3 scope,(compEnvC scope (A2 env.cells scope.names []) C env).kindOf y=some .cell:=λy hy=>by
  show((relabel scope env).names).lookup y=_;have hl:=(hfr y hy).2;have e1:=bK6 (scope:=scope) (sc:=env.scope) hl;have e2:(NameKind.free==NameKind.free&&env.scope.kind==.function&&env.scope.names.lookup y==some .cell)=true:=by
   rw[I.fn,I.scope,(hfr y hy).1];rfl
  rw[e2] at e1;exact e1
 have own_c:∀ b,i9 (compEnvC scope (A2 env.cells scope.names []) C env) b->b=C∨∃ y,env.cells.lookup y=some b:=λb hb=>by
  rcases hb with rfl | ⟨y,hy⟩
  ·exact .inl rfl
  ·exact .inr ⟨y,clk y b hy⟩
 have I':Inv g F A env Z Y' s':=I.keep st' sm;refine a9 I'.loc.ns λmE hnE hvE=>?_
 refine⟨?_,hkind,I.glob,I.bltn,I.room,I.units,I.quiet,sm,⟨?_,⟨m',hns',λi y u hy hu=>?_⟩,λb hb=>?_,λy c hc=>I'.loc.live y c (clk y c hc),λy z c h1 h2=>I'.loc.apart y z c (clk y c h1) (clk z c h2),λy c hc q=>?_⟩,λb hb=>?_,hnd,by refine I'.frs _ ?_;rintro e0 l ha hf all;exact(λz_ k_=>k_ e0 l ha hf all)⟩
 ·show relabel scope env=rl scope F.sc
  rw[<- I.scope];rfl
 ·show(some v::x5 Z js).length=(x::u3 scope).length
  have:js.length=(u3 scope).length:=by have:=congrArg List.length hjs;simpa using this
  simp[x5,this]
 ·cases i with
  | zero=>
   simp[C9] at hy hu
   subst hy hu;exact .inl ⟨hkx,λW hW=>by replace hW:=i5 hW;subst hW;exact⟨rv,hmx,hrv⟩⟩
  | succ k=>
   have hy':(u3 scope)[k]?=some y:=by simpa[C9] using hy
   have hu':(x5 Z js)[k]?=some u:=by simpa using hu
   obtain⟨j,hj,hj'⟩:∃ j,js[k]?=some j/\F.vars[j]?=some y:=by
    have h1:(js.map (λj=>F.vars[j]?))[k]?=some (some y):=by rw[hjs,aq,hy'];rfl
    rw[aq] at h1;exact aA.mp h1
   have hum:u=(Z[j]?).join:=by
    unfold x5 at hu';rw[aq,hj] at hu';exact(Option.some.inj hu').symm
   have hymem:y∈u3 scope:=aD hy';have hlt:j<Z.length:=by rw[I.loc.len];exact(aj.mp hj').1
   have hρj:Z[j]?=some Z[j]:=ae hlt;rcases hvE j y _ hj' hρj with ⟨hkd,_⟩ | ⟨_,c,r,hc,hcl,hval⟩
   ·have:=(hfr y hymem).1
    rw[show env.kindOf y=F.sc.names.lookup y from by unfold Env.kindOf;rw[I.scope],this] at hkd
    cases hkd
   ·obtain⟨c',hc'⟩:=bA.mp (bW4 (cells:=env.cells) (x:=y) (names:=scope.names) (acc:=[]) (.inr (by
     refine a9 (ai.mp hymem) λz hz hz'=>?_
     refine c5 (cu.mp hz) λhz1 hz2=>?_
     exact⟨z,hz1,hz',by simpa using hz2⟩)))
    have:c'=c:=by have:=clk y c' hc';rw[hc] at this;exact(Option.some.inj this).symm
    subst this;refine .inr ⟨hky y hymem,c',r,hc',hcl,λW hW=>hval W ?_⟩
    rw[hum,hρj] at hW
    simpa using hW
 ·rcases own_c b hb with rfl | ⟨y,hy⟩
  ·exact hYC
  ·exact I'.loc.free b (.inr ⟨y,hy⟩)
 ·have hyc:=clk y c hc
  refine j6 (I.loc.live y c hyc) λz_ o h0 z_=>?_
  have q':c=C:=q;rw[q',f0C] at h0;exact f9 h0
 ·rcases own_c b hb with rfl | ⟨y,hy⟩
  ·exact I.notBase (f0C)
  ·exact I.base b (.inr ⟨y,hy⟩)
theorem bW0{elt iter:Expr}{x:Str}{px pos:Pos}{ifs:List Expr}{scope:Scope}{js:List Nat}(ok:F9 F scope x js=true){P:List V->Hp->Prop}{L:List V}{K:Hp->Prop}{St:Nat->Heap->Prop}{J:List V->List V->Hp->Prop}(hLs:L.length<=sizeLine)
  (hturn:∀ v l acc Y',J (v::l) acc Y'->K Y'/\D3 g (C9 F scope x) ifs (some v::x5 Z js) Y' (λb Y2=>(b=true->Ev g (C9 F scope x) elt (some v::x5 Z js) Y2 (λy Y₃=>J l (acc++[y]) Y₃) noX)/\(b=false->J l acc Y2)))
  (hend:∀ acc Y',J [] acc Y'->K Y'/\P acc Y') {A:Around} {env ce:Env} {s:Shared} {D C It:Addr} {QQ:Except Value Flow->Shared->Prop} (I:Inv g F A env Z Y s) (W:IterOK g A It L K St)
  (hItD:D≠It) (hItC:It≠C) (hDC:D≠C) (fI:s.heap.get? It=none) (fD:s.heap.get? D=none) (fC:s.heap.get? C=none) (hce:compEnvC scope (A2 env.cells scope.names []) C env=ce)
  (fin:∀ acc Y' s',P acc Y'->Y' D=none->Inv g F A env Z (upd Y' D (.lst acc)) s'->Step (inF A) f2 Y (upd Y' D (.lst acc)) s s'->(∃ m,s'.heap.Ns C m)->upd Y' D (.lst acc) C=none->QQ (.ok .next) s') {n₀:Nat} {sy:Shared} (h₀:ac7 g A L J St D C It Y s n₀ sy) :
  codeAny (model g.prog g.w) A (.compLoop (.ListComp elt [⟨.Name x px,iter,ifs,0⟩] scope pos) 0 (.ref It) (.ref D) ce) QQ sy:=by
 refine W0 (Ya3 ok) λhcell hkind hloc hx hnd hfr hjs=>?_
 have hkx:ce.kindOf x=some .local:=by
  rw[<- hce];show(relabel scope env).names.lookup x=_;exact lookup_relabel_local hx
 have hsc:(ce.scope.kind==.class||(ce.scope.kind==.module&&ce.locals != ce.globals))=false:=by rw[<- hce];show(scope.kind==.class||(scope.kind==.module&&_))=false;rw[hkind];rfl
 have hcl:ce.locals=C:=by rw[<- hce];rfl
 obtain⟨R,hR⟩:∃ R,R=ac7 g A L J St D C It Y s:=⟨_,rfl⟩;have kR:∀ {n s'},ac7 g A L J St D C It Y s n s'->R n s':=λh=>hR▸h
 refine codeAny_compLoop_tests R ?_ n₀ (kR h₀);intro n s' hj;rw[hR] at hj;refine hj _ ?_;clear hj;rintro i acc Y' m' hn hi hacc' hJ' ck hC' hYC' sm' st';refine(id ck) _ ?_;rintro ys hst' hD' hR' hYI' hYD';refine j6 (W.obj i _ hst') λoI vI hoI hdI=>?_
 by_cases hlt:i<L.length
 ·have hd:L.drop i=L[i]::L.drop (i+1):=bN hlt
  rw[hd] at hJ';refine c5 (hturn _ _ _ _ hJ') λhK hcond=>?_
  refine W.item i L[i] Y' s' _ _ (ae hlt) hst' sm' hK λv h' tk hr hst1 hx1=>?_
  have tu1:=M7 hoI hdI hx1;have hC1:h'.Ns C m':=hC'.at' λo ho=>hx1 C o (Ne.symm hItC) ho
  refine wpAny_assign_Name (wpAny_storeName_local (env:=ce) hkx (hcl▸hC1) (λh2 hn2 hs2=>?_) hsc)
  rw[hcl] at hn2 hs2;have tu2:=N5 hC1 hs2;have k2:=(ck.on hx1 tu1 hItD hst1).but W hs2.extBut tu2 hItC hDC;have stp2:Step (inF A) f2 Y Y' s {s' with heap:=h2,toks:=tk+1}:=(st'.but (tk:=tk) hx1 fI).but (tk:=tk+1) hs2.extBut fC
  have IC:=bb3 ok (F:=F) (C:=C) (v:=L[i]) I ((sm'.but hx1 tu1 hYI' (I.notBase fI)).but hs2.extBut tu2 hYC' (I.notBase fC)) stp2 hn2 (if_pos rfl) (hr.mono tu2) hYC' fC;rw[hce] at IC;refine wpAny_mono (hcond A _ _ _ IC) (λokb s3 p3=>?_) λz_ z_ p=>p
  refine p3 _ ?_;clear p3;rintro Y3 I3 st3' hb;have k3:=k2.step W st3' (I.notFr fI) (I.notFr fD);cases okb with
  | false=>
   rw[if_neg (by decide)]
   refine a9 I3.loc.ns λm3 hm3 z_=>?_
   exact⟨n-1,by lia,kR (λz_ k_=>k_ (i+1) acc Y3 m3 (by lia) (by lia) (by lia) (hb.2 rfl) k3 (hcl▸hm3) (I3.loc.free C (.inl hcl.symm)) I3.sim (stp2.trans st3'))⟩
  | true=>
   rw[if_pos rfl];refine pgo ((hb.1 rfl) A _ s3 I3) (λyv s4 Yb Y4 ry I4 st4 hJ4=>?_) λz_ z_ p=>p.no
   have k4:=k3.step W st4 (I.notFr fI) (I.notFr fD);refine k4 _ ?_;clear k4;rintro ys hst4 ⟨nD,hD4⟩ hR4 hYI4 hYD4;refine a9 I4.loc.ns λm4 hm4 z_=>?_
   rw[hcl] at hm4;have hys:ys.size<=sizeLine:=by have:=hR4.length;rw[ao] at this;lia
   refine wpAny_list_append_plain (hsz:=hys) ⟨nD,hD4⟩ λh5 hl5 hs5=>?_
   have tu5:l8 s4.heap h5:=λb vs n e=>(hs5.2 b (λq=>by rw[q,hD4] at e;simp at e)).trans e
   refine⟨n-1,by lia,kR (λz_ k_=>k_ (i+1) (acc++[Yb]) Y4 m4 (by lia) (by lia) (by simp;lia) hJ4 (λz_ k_=>k_ (ys.push yv) (W.frame _ _ _ hst4 (λo ho=>hs5.extBut It o (Ne.symm hItD) ho) tu5) hl5 ?_ hYI4 hYD4) (hm4.at' (λo ho=>hs5.extBut C o (Ne.symm hDC) ho)) (I4.loc.free C (.inl hcl.symm)) (I4.sim.but hs5.extBut tu5 hYD4 (I.notBase fD)) (((stp2.trans st3').trans st4).but (tk:=s4.toks) hs5.extBut fD))⟩
   rw[cF];exact(hR4.mono tu5).append (.cons (ry.mono tu5) .nil)
 ·have hii:i=L.length:=by lia
  rw[hii,dy] at hJ';refine W.done Y' s' _ _ (hii▸hst') sm' (hend _ _ hJ').1 λh' tk hx1=>?_
  have tu1:=M7 hoI hdI hx1;have sim1:Sim g Y' h':=sm'.but hx1 tu1 hYI' (I.notBase fI);have stp1:Step (inF A) f2 Y Y' s {s' with heap:=h',toks:=tk}:=st'.but hx1 fI
  refine c6 hD' λnD hDo=>?_
  have simD:Sim g (upd Y' D (.lst acc)) h':=⟨sim1.stays,λa o e=>by
   by_cases ha:a=D
   ·subst ha;rw[d3] at e;replace e:=i5 e;subst e
    exact⟨⟨ys,⟨nD,hx1 _ _ hItD hDo⟩,hR'.mono tu1⟩,I.notBase fD⟩
   ·rw[d8 _ _ ha] at e;exact sim1.objs a o e⟩
  have stpD:Step (inF A) f2 Y (upd Y' D (.lst acc)) s {s' with heap:=h',toks:=tk}:=⟨stp1.same,stp1.dom,stp1.keep,stp1.tups,λb o e hY=>by
   rw[d8 _ _ (λq=>by rw[q,fD] at e;exact f9 e)];exact stp1.new b o e hY⟩
  exact fin acc Y' _ (hend _ _ hJ').2 hYD' (I.keep stpD simD) stpD ⟨m',hC'.at' λo ho=>hx1 C o (Ne.symm hItC) ho⟩ (by rw[d8 _ _ (Ne.symm hDC)];exact hYC')
theorem ao0{elt iter:Expr}{x:Str}{px pos pos':Pos}{ifs:List Expr}{scope:Scope}{js:List Nat}(ok:F9 F scope x js=true)(hq:F.q=true)(P:List V->Hp->Prop)
  (h:Itr g F iter Z Y (λL K zs=>∃ J:List V->List V->Hp->Prop,L.length<=sizeLine/\J L [] zs/\
   (∀ v l acc Y',J (v::l) acc Y'->K Y'/\D3 g (C9 F scope x) ifs (some v::x5 Z js) Y' (λb Y2=>(b=true->Ev g (C9 F scope x) elt (some v::x5 Z js) Y2 (λy Y3=>J l (acc++[y]) Y3) noX)/\(b=false->J l acc Y2)))/\
   ∀ acc Y',J [] acc Y'->K Y'/\P acc Y') X)
  {A:Around} {env:Env} {s:Shared} {E:Value->Shared->Prop} {use:Option (Value->Sem Unit)} {QV:Value->Shared->Prop} (I:Inv g F A env Z Y s) (hE:∀ e s',k9 g F A env Z Y s X e s'->E e s')
  (fin:∀ D C acc Y' s',P acc Y'->Y' D=none->Inv g F A env Z (upd Y' D (.lst acc)) s'->Step (inF A) f2 Y (upd Y' D (.lst acc)) s s'->(∃ m,s'.heap.Ns C m)->s.heap.get? C=none->upd Y' D (.lst acc) C=none->
   compPost (model g.prog g.w) A E use QV (.ref D) C (.ok .next) s') :
  wpAny (model g.prog g.w) A (comprehension (.ListComp elt [⟨.Name x px,iter,ifs,0⟩] scope pos) scope env pos' (newList []) false (eval iter env) use) QV E s:=by
 refine W0 (Ya3 ok) λhcell hkind hloc hx hnd hfr hjs=>?_
 have hh:=I.quiet hq;have hsome:=ay1 ok I;refine wpAny_comprehension_free (g:=⟨.Name x px,iter,ifs,0⟩) (gs:=[]) rfl (λv=>h.fold env v) (bE7 hsome) hkind (λy hy e=>(hloc y hy).resolve_left λq=>q e) ?_
 refine wpAny_mono (h.run A env s I hh) (λxv sv h1=>wpAny_mono h1 (λit s2 h2=>?_) λe s' p=>hE e s' p) λe s' p=>hE e s' p
 refine h2 _ ?_;clear h2;rintro It L K St zs rfl W hst hItf hYI sw st2 ⟨J,hLs,hJ,hturn,hend⟩;refine wpAny_newObj_type (wpAny_newFunctionEnv hcell (by intro y hy;simp at hy) (λh1 hns1 hsb1=>?_) hkind)
 dsimp only at hns1 hsb1 ⊢
 generalize hH2:s2.heap.push {cls:=.type "list",dict:=none,data:=.seq ([]:List Value).toArray}=H2 at hns1 hsb1 ⊢;have hC:H2.objs.size=s2.heap.objs.size+1:=by rw[<- hH2,bw]
 generalize hDd:s2.heap.objs.size=D at hC ⊢;generalize hCc:H2.objs.size=C at hns1 hsb1 hC ⊢;have hDC:D≠C:=by lia
 have old:∀ b o,s2.heap.get? b=some o->h1.get? b=some o:=λb o e=>by
  have hlt:=aE e;exact hsb1.extBut b o (bb (by rw[hC,<- hDd];exact bq hlt)) (ag _ (hH2▸ag _ e))
 have fresh:∀ a,D<=a->s2.heap.get? a=none:=λa ha=>by
  cases e:s2.heap.get? a with
  | none=>rfl
  | some o'=>exact absurd (aE e) (cf.mpr (by rw[hDd];exact ha))
 have hacc:h1.PlainList D #[]:=⟨0,hsb1.extBut _ _ hDC (ag _ (by rw[<- hH2,<- hDd];exact an _ rfl))⟩
 have st3:Step (inF A) f2 zs zs s2 {s2 with heap:=h1,toks:=s2.toks+([]:List (Str×Value)).length}:=Step.grow old
 have f0:∀ a,D<=a->s.heap.get? a=none:=λa ha=>by
  cases e:s.heap.get? a with
  | none=>rfl
  | some o=>refine a9 (st2.dom _ o e) λo' ho' z_=>?_;rw[fresh a ha] at ho';exact f9 ho'
 have hYfresh:∀ a,D<=a->zs a=none:=λa ha=>by
  cases e:zs a with
  | none=>rfl
  | some o=>
   have:=(sw.sim.objs a o e).1;refine c6 this.has λob e'=>?_
   rw[fresh a ha] at e';exact f9 e'
 have hIt2:∃ o vs,s2.heap.get? It=some o/\o.data=.fields vs:=W.obj 0 _ hst;have hItD:It≠D:=λq=>by refine j6 hIt2 λo z_ e z_=>?_;rw[q,fresh D (aI _)] at e;exact f9 e
 have hItC:It≠C:=λq=>by refine j6 hIt2 λo z_ e z_=>?_;rw[q,fresh C (by lia)] at e;exact f9 e
 have hst1:St 0 h1:=W.frame _ _ _ hst (λo e=>old _ o e) (λb z_ z_ e=>old b _ e)
 have loop:=bW0 (elt:=elt) (iter:=iter) (px:=px) (pos:=pos) ok hLs hturn hend (QQ:=compPost (model g.prog g.w) A E use QV (.ref D) C) I W (Ne.symm hItD) hItC hDC hItf (f0 D (aI _)) (f0 C (by lia)) rfl
  (λacc Y' s' p1 p2 p3 p4 p5 p6=>fin D C acc Y' s' p1 p2 p3 p4 p5 (f0 C (by lia)) p6) (n₀:=L.length+1) (sy:={s2 with heap:=h1,toks:=s2.toks+([]:List (Str×Value)).length})
  (λz_ k_=>k_ 0 [] zs _ (by lia) (ay _) (aI _) (by simpa using hJ) (λz_ k_=>k_ (#[]) hst1 hacc .nil hYI (hYfresh D (aI _))) hns1 (hYfresh C (by lia)) (sw.sim.grow old) (st2.trans st3))
 exact codeAny_compStart_list loop (W.self 0 _ _ _ hst1 loop)
theorem aF6{Q:V->Hp->Prop}{elt iter:Expr}{x:Str}{px pos:Pos}{ifs:List Expr}{scope:Scope}(js:List Nat)(ok:F9 F scope x js=true)(hq:F.q=true)
  (h:Itr g F iter Z Y (λL K zs=>∃ J:List V->List V->Hp->Prop,L.length<=sizeLine/\J L [] zs/\
   (∀ v l acc Y',J (v::l) acc Y'->K Y'/\D3 g (C9 F scope x) ifs (some v::x5 Z js) Y' (λb Y2=>(b=true->Ev g (C9 F scope x) elt (some v::x5 Z js) Y2 (λy Y3=>J l (acc++[y]) Y3) noX)/\(b=false->J l acc Y2)))/\
   ∀ acc Y',J [] acc Y'->K Y'/\∀ a,Y' a=none->Q (.ref a) (upd Y' a (.lst acc))) X) :
  Ev g F (.ListComp elt [⟨.Name x px,iter,ifs,0⟩] scope pos) Z Y Q X:=(λA env s I=>by
 rw[eval_ListComp];refine ao0 ok hq (λacc Y'=>∀ a,Y' a=none->Q (.ref a) (upd Y' a (.lst acc))) h I (λz_ z_ p=>p) λD C acc Y' s' hJ hD I' st' hC hC0 hYC=>?_
 refine c6 hC λm hm=>?_
 refine⟨m,hm,λh' hs=>?_⟩
 have tu:=N5 hm hs;exact(λz_ k_=>k_ (.ref D) _ (.ref D) (I'.but (tk:=s'.toks) hs.extBut tu hYC (I.notOwn hC0) (I.notBase hC0) (I.notFr hC0)) (st'.but (tk:=s'.toks) hs.extBut hC0) (hJ D hD)))
theorem aQ0{elt:Expr}{gens:List Comprehension}{scope:Scope}{cpos p':Pos}{y:Str}{line:Nat}{env:Env} :
  ∃ b,swapsWith (.ListComp elt gens scope cpos) (some (.Name y p')) line env=pure b:=⟨_,rfl⟩
end
section
variable{g:G}{F:Blk}{Z:List (Option V)}{Y:Hp}{Q:V->Hp->Prop}{QB:Bool->Hp->Prop}{X:Str->Hp->Prop}
theorem bg2{x t:Str}{np tp pos:Pos}{e:Expr}{tn:String}(hk:F.sc.names.lookup x=some .globalImplicit)(hg:g.mg x=none)(hb:g.mb x=some (.builtin "isinstance"))
  (hkt:F.sc.names.lookup t=some .globalImplicit) (hgt:g.mg t=none) (hbt:g.mb t=some (.type tn))
  (h:Ev g F e Z Y (λv zs=>Op1 g F (λy=>call (.builtin "isinstance") [y,.type tn]) v Z zs Q X) X) (hd:(x==("__debug__" : Str))=false) (hdt:(t==("__debug__" : Str))=false)
  (he:∀ env,starEach [e,.Name t tp] env=(false,eval e env)::starEach [.Name t tp] env):Ev g F (.Call (.Name x np) [e,.Name t tp] [] pos) Z Y Q X:=(λA env s I=>by
 refine wpAny_Call_ofName (Calls.Name_function_global I.fn (by show env.scope.names.lookup x=_;rw[I.scope];exact hk) (aK (by rw[I.glob];exact g.ns.keeps I.sim.stays) hg (by rw[I.bltn];exact g.nb.keeps I.sim.stays) hb ?_) hd)
 have hp:(backTo pos (starEach [e,.Name t tp] env)).any (·.1)=false:=by rw[he];rfl
 refine bh hp (x9 hp (wpAny_items_cons (pgo (h A env s I) (λv sv V zs r I1 st1 hQ=>?_) λz_ z_ p=>p) (he env)))
 refine wpAny_items_cons (Calls.Name_function_global I1.fn (by show env.scope.names.lookup t=_;rw[I1.scope];exact hkt) (aK (by rw[I1.glob];exact g.ns.keeps I1.sim.stays) hgt (by rw[I1.bltn];exact g.nb.keeps I1.sim.stays) hbt (wpAny_items_nil ?_)) hdt)
 exact wpAny_mono (hQ A env sv v I1 r) (λz_ z_ p=>p.step st1) λz_ z_ p=>p.step st1)
theorem aP8{l r1 r2:Expr}{o1 o2:CmpOp}{pos:Pos} (h:Ev g F l Z Y (λa zs=>Ev g F r1 Z zs (λb Y2=>Op2 g F (compareOp o1) a b Z Y2 (λc Y3=>Tru g F c Z Y3 (λt Y4=>
   (t=true->Ev g F r2 Z Y4 (λd Y5=>Op2 g F (compareOp o2) b d Z Y5 Q X) X)/\(t=false->Q c Y4)) X) X) X) X) (hm:lastMarks [o1,o2] [r1,r2]=false) :
  Ev g F (.Compare l [o1,o2] [r1,r2] pos) Z Y Q X:=(λA env s I=>by
 refine PyProof.Rows.Compare_chain (pgo (h A env s I) (λa sv Va zs ra I1 st1 h1=>?_) λz_ z_ p=>p) hm
 refine PyProof.Rows.chain_link (pgo (h1 A env sv I1) (λb s2 Vb Y2 rb sw st2 h2=>?_) λz_ z_ p=>p.step st1)
 refine pgo (h2 A env s2 a b sw (ra.mono st2.tups) rb) (λc s3 Vc Y3 rc I3 st3 h3=>?_) λz_ z_ p=>(p.step st2).step st1
 have st13:=(st1.trans st2).trans st3;refine A6 (h3 A env s3 c I3 rc) (λt s4 Y4 I4 st4 h4=>?_) λz_ z_ p=>p.step st13
 have st14:=st13.trans st4;cases t with
 | false=>exact(λz_ k_=>k_ Vc Y4 (rc.mono st4.tups) I4 st14 (h4.2 rfl))
 | true=>
  refine PyProof.Rows.chain_last (pgo ((h4.1 rfl) A env s4 I4) (λd s₅ Vd Y5 rd I₅ st5 h5=>?_) λz_ z_ p=>p.step st14)
  have st15:=st14.trans st5;exact wpAny_mono (h5 A env s₅ b d I₅ (rb.mono ((st3.tups.trans st4.tups).trans st5.tups)) rd) (λz_ z_ p=>p.step st15) λz_ z_ p=>p.step st15)
theorem bt6{l r1 r2:Expr}{o1 o2:CmpOp}{pos:Pos} (h:Ev g F l Z Y (λa zs=>Ev g F r1 Z zs (λb Y2=>Op2 g F (compareOp o1) a b Z Y2 (λc Y3=>Tru g F c Z Y3 (λt Y4=>
   (t=true->Ev g F r2 Z Y4 (λd Y5=>Op2 g F (compareOp o2) b d Z Y5 (λe Y6=>Tru g F e Z Y6 QB X) X) X)/\(t=false->QB false Y4)) X) X) X) X) (hm:lastMarks [o1,o2] [r1,r2]=false) :
  Tst g F (.Compare l [o1,o2] [r1,r2] pos) Z Y QB X:=(λA env s I=>by
 refine PyProof.Rows.isTrue_chain (pgo (h A env s I) (λa sv Va zs ra I1 st1 h1=>?_) λz_ z_ p=>p) hm
 refine PyProof.Rows.test_link (pgo (h1 A env sv I1) (λb s2 Vb Y2 rb sw st2 h2=>?_) λz_ z_ p=>p.step st1)
 refine pgo (h2 A env s2 a b sw (ra.mono st2.tups) rb) (λc s3 Vc Y3 rc I3 st3 h3=>?_) λz_ z_ p=>(p.step st2).step st1
 have st13:=(st1.trans st2).trans st3;refine A6 (h3 A env s3 c I3 rc) (λt s4 Y4 I4 st4 h4=>?_) λz_ z_ p=>p.step st13
 have st14:=st13.trans st4;cases t with
 | false=>exact(λz_ k_=>k_ Y4 I4 st14 (h4.2 rfl))
 | true=>
  refine PyProof.Rows.test_last (pgo ((h4.1 rfl) A env s4 I4) (λd s₅ Vd Y5 rd I₅ st5 h5=>?_) λz_ z_ p=>p.step st14)
  have st15:=st14.trans st5;refine pgo (h5 A env s₅ b d I₅ (rb.mono ((st3.tups.trans st4.tups).trans st5.tups)) rd) (λe s₆ Ve Y6 re I₆ st6 h6=>?_) λz_ z_ p=>p.step st15
  exact wpAny_mono (h6 A env s₆ e I₆ re) (λz_ z_ p=>(p.step st6).step st15) λz_ z_ p=>(p.step st6).step st15)
theorem bl0{l:List V}(hfit:(l.length:Int)<2 ^ 63)(h:Q (.int l.length) Y):Cl g F (.builtin "len") [.tup l] Z Y Q X:=(λA env s vs I r=>by
   refine a9 r.one λz_ q1_ r0=>?_;subst q1_
   refine l6 r0.ofTup λa us n q1_ ht rl=>?_;subst q1_
   have e:((us.size:Nat):Int)=(l.length:Int):=by rw[<- rl.length,ao]
   refine PyProof.Rows.len_tuple ⟨_,ht,rfl,_,rfl⟩ (by rw[e];exact hfit) ?_
   rw[e];exact B3 I h)
theorem by6{a:Addr}{l:List V}(hY:Y a=some (.lst l))(hfit:(l.length:Int)<2 ^ 63)(h:Q (.int l.length) Y):Cl g F (.builtin "len") [.ref a] Z Y Q X:=(λA env s vs I r=>by
   refine a9 r.one λz_ q1_ r0=>?_;subst q1_
   obtain rfl:=r0.ofRef;refine a9 ((I.sim.objs a _ hY).1) λus hp rl=>?_
   have e:((us.size:Nat):Int)=(l.length:Int):=by rw[<- rl.length,ao]
   refine eM hp.isList (by rw[e];exact hfit) ?_
   rw[e];exact B3 I h)
theorem bA0{a:Addr}{l:List V}(hY:Y a=some (.lst l))(hz:l.length<=sizeLine)(h:Q (.tup l) Y):Cl g F (.type "tuple") [.ref a] Z Y Q X:=(λA env s vs I r=>by
   refine a9 r.one λz_ q1_ r0=>?_;subst q1_
   obtain rfl:=r0.ofRef;refine a9 ((I.sim.objs a _ hY).1) λus hp rl=>?_
   have e:us.size=l.length:=by rw[<- rl.length,ao]
   refine call_tuple_list hp.isList (λh' hk=>?_) (by rw[e];exact hz)
   have st1:Step (inF A) f2 Y Y s {s with heap:=h'}:=Step.grow (tk:=s.toks) hk
   have I1:=I.keep st1 (I.sim.grow hk);have p:=W3 (Q:=Q) I1 (rl.mono st1.tups) h;rw[eF] at p;exact p.step st1)
theorem bB5{l:List V}(h:Q (.tup l) Y):Cl g F (.type "tuple") [.tup l] Z Y Q X:=(λA env s vs I r=>by
   refine a9 r.one λz_ q1_ r0=>?_;subst q1_
   refine l6 r0.ofTup λa us n q1_ ht rl=>?_;subst q1_
   exact call_tuple_same ⟨_,ht,rfl,_,rfl⟩ (B8 I (.tup ht rl) h))
theorem am7{A env s}{h':Heap}{D:Addr}{vs:Array Value}{c tk:Nat}{l:List V}(I:Inv g F A env Z Y s)(hk:∀ b o,s.heap.get? b=some o->h'.get? b=some o)(hD:h'.get? D=some {cls:=.type "list",data:=.seq vs c})(hn:s.heap.get? D=none)(r:d5 h' vs.toList l)
  (h:∀ a,Y a=none->Q (.ref a) (upd Y a (.lst l))):l9 g F A env Z Y s Q (.ref D) {s with heap:=h',toks:=tk}:=by
 have st0:Step (inF A) f2 Y Y s {s with heap:=h',toks:=tk}:=Step.grow hk
 have hYD:Y D=none:=by
  cases q:Y D with
  | none=>rfl
  | some o=>
   have:=(I.sim.objs _ o q).1;refine c6 this.has λob e=>?_
   rw[hn] at e;exact f9 e
 have st:Step (inF A) f2 Y (upd Y D (.lst l)) s {s with heap:=h',toks:=tk}:=⟨st0.same,st0.dom,st0.keep,st0.tups,λb o e hY=>by
  rw[d8 _ _ (λq=>by rw[q,hn] at e;exact f9 e)];exact hY⟩
 refine(λz_ k_=>k_ _ _ (.ref _) (I.keep st ⟨(I.sim.grow hk).stays,λa o e=>?_⟩) st (h _ hYD))
 by_cases ha:a=D
 ·subst ha
  rw[d3] at e;replace e:=i5 e;subst e;exact⟨⟨vs,⟨c,hD⟩,r⟩,I.notBase hn⟩
 ·rw[d8 _ _ ha] at e
  exact(I.sim.grow hk).objs a o e
theorem aX7{a:Addr}{l:List V}(hY:Y a=some (.lst l))(hz:l.length<=sizeLine)(h:∀ b,Y b=none->Q (.ref b) (upd Y b (.lst l))):Cl g F (.type "list") [.ref a] Z Y Q X:=(λA env s vs I r=>by
   refine a9 r.one λz_ q1_ r0=>?_;subst q1_
   obtain rfl:=r0.ofRef;obtain⟨us,⟨n,hp⟩,rl⟩:=(I.sim.objs a _ hY).1;have e:us.size=l.length:=by rw[<- rl.length,ao]
   refine call_list_seq a (.inl rfl) hp rfl rfl (λh' c' hk hD=>?_) (by rw[e];exact hz)
   exact am7 (tk:=s.toks) I hk hD (u6 _) (rl.mono λb z_ z_ q=>hk b _ q) h)
theorem bQ3{l:List V}(hz:l.length<=sizeLine)(h:∀ b,Y b=none->Q (.ref b) (upd Y b (.lst l))):Cl g F (.type "list") [.tup l] Z Y Q X:=(λA env s vs I r=>by
   refine a9 r.one λz_ q1_ r0=>?_;subst q1_
   refine l6 r0.ofTup λa us n q1_ ht rl=>?_;subst q1_
   have e:∀ (us:Array Value),d5 s.heap us.toList l->us.size=l.length:=λus r=>by rw[<- r.length,ao]
   refine call_list_seq _ (.inr rfl) ht rfl rfl (λh' c' hk hD=>?_) (by rw[e _ rl];exact hz)
   exact am7 (tk:=s.toks) I hk hD (u6 _) (rl.mono λb z_ z_ q=>hk b _ q) h)
theorem bR5{l k:List V}(hz:l.length+k.length<=sizeLine)(h:Q (.tup (l++k)) Y):Op2 g F (binaryOp .Add) (.tup l) (.tup k) Z Y Q X:=(λA env s x y I rx ry=>by
  refine l6 rx.ofTup λa vs n q1_ ht rl=>?_;subst q1_
  refine l6 ry.ofTup λb us m q1_ hu rk=>?_;subst q1_
  have e1:vs.size=l.length:=by rw[<- rl.length,ao]
  have e2:us.size=k.length:=by rw[<- rk.length,ao]
  by_cases hv:vs.isEmpty=true
  ·refine concat_meets ⟨_,ht,rfl⟩ ⟨_,hu,rfl⟩ noFill_tuple_add seq_tuple_add PySem.F.slot_tuple_add PySem.F.entry_tuple_add (PySem.F.args_tuple_add_2 _ _) (PyProof.Rows.tuple_addW0 _ _ vs us n m none none #[] #[] hv) ⟨ht,hu,?_⟩
   have:l=[]:=by
    have:vs.size=0:=by simpa using hv
    rw[e1] at this;exact bf.mp this
   subst this;exact B8 I (.tup hu rk) h
  ·by_cases hw:us.isEmpty=true
   ·refine concat_meets ⟨_,ht,rfl⟩ ⟨_,hu,rfl⟩ noFill_tuple_add seq_tuple_add PySem.F.slot_tuple_add PySem.F.entry_tuple_add (PySem.F.args_tuple_add_2 _ _) (PyProof.Rows.tuple_addW1 _ _ vs us n m none none #[] #[] hv hw) ⟨ht,hu,?_⟩
    have:k=[]:=by
     have:us.size=0:=by simpa using hw
     rw[e2] at this;exact bf.mp this
    subst this;rw[aL] at h;exact B8 I (.tup ht rl) h
   ·refine concat_meets ⟨_,ht,rfl⟩ ⟨_,hu,rfl⟩ noFill_tuple_add seq_tuple_add PySem.F.slot_tuple_add PySem.F.entry_tuple_add (PySem.F.args_tuple_add_2 _ _) (PyProof.Rows.tuple_addW2 _ _ vs us n m none none #[] #[] hv hw (by lia)) ⟨ht,hu,?_⟩
    have p:=W3 (Q:=Q) (vs:=vs.toList++us.toList) I (rl.append rk) h;have e:(vs.toList++us.toList).toArray=vs++us:=by simp
    rw[e] at p;exact p)
theorem bm2{a b:Addr}{l k:List V}(ha:Y a=some (.lst l))(hb:Y b=some (.lst k))(hz:l.length+k.length<=sizeLine)(h:∀ c,Y c=none->Q (.ref c) (upd Y c (.lst (l++k)))):Op2 g F (binaryOp .Add) (.ref a) (.ref b) Z Y Q X:=(λA env s x y I rx ry=>by
 obtain rfl:=rx.ofRef;obtain rfl:=ry.ofRef;obtain⟨vs,⟨n,hp⟩,rl⟩:=(I.sim.objs a _ ha).1;obtain⟨us,⟨m,hu⟩,rk⟩:=(I.sim.objs b _ hb).1;have e1:vs.size=l.length:=by rw[<- rl.length,ao]
 have e2:us.size=k.length:=by rw[<- rk.length,ao]
 refine P.add_list hp hu ?_ (by lia)
 have p:=ah5 (Q:=Q) (vs:=vs.toList++us.toList) I (rl.append rk) h;have e:(vs.toList++us.toList).toArray=vs++us:=by simp
 rw[e] at p;exact p)
end
noncomputable def slc{α:Type}(lo hi:Option Int)(l:List α):List α:=(l.drop (lo.elim 0 (clipAt l.length))).take (hi.elim l.length (clipAt l.length)-lo.elim 0 (clipAt l.length))
theorem d5.drop{h:Heap}{vs:List Value}{l:List V}(n:Nat)(r:d5 h vs l):d5 h (vs.drop n) (l.drop n):=by
 induction n generalizing vs l with
 | zero=>exact r
 | succ n ih=>
  cases l with
  | nil=>rw[r.ofNil];exact .nil
  | cons x l=>refine g7 r.ofCons λv us q1_ z_ r2=>?_;subst q1_;exact ih r2
theorem d5.take{h:Heap}{vs:List Value}{l:List V}(n:Nat)(r:d5 h vs l):d5 h (vs.take n) (l.take n):=by
 induction n generalizing vs l with
 | zero=>exact .nil
 | succ n ih=>
  cases l with
  | nil=>rw[r.ofNil];exact .nil
  | cons x l=>refine g7 r.ofCons λv us q1_ r1 r2=>?_;subst q1_;exact .cons r1 (ih r2)
theorem d5.slc{h:Heap}{vs:List Value}{l:List V}(lo hi:Option Int)(r:d5 h vs l):d5 h (slc lo hi vs) (slc lo hi l):=by
 unfold Internal.slc;rw[r.length];exact(r.drop _).take _
inductive OptInt:V->Option Int->Prop
 | none:OptInt .none none
 | int (i:Int):OptInt (.int i) (some i)
theorem OptInt.part{h:Heap}{x:Value}{v:V}{k:Option Int}(o:OptInt v k)(r:Rep h x v):IsPart x k:=by
 cases o with
 | none=>rw[r.ofNone];exact .none
 | int i=>refine c6 r.ofInt λt q1_=>?_;subst q1_;exact .int _ _
section
variable{prog:Program}{w:World}{A:Around}{E:Value->Shared->Prop}{s:Shared}
theorem ay0{x:Value}{k:Option Int}{Q:Option Int->Shared->Prop}(p:IsPart x k)(h:Q k s):wpAny (model prog w) A (Builtin.Slice.slicePartIndex x) Q E s:=by
 cases p with
 | none=>exact dg h
 | int i t=>exact PyProof.Rows.slicePart_int h
theorem ca3(lo hi:Option Int)(n:Nat):Builtin.Slice.sliceAdjust lo hi 1 (n:Int)=(((lo.elim 0 (clipAt n):Nat):Int),((hi.elim n (clipAt n):Nat):Int)):=by
 have key:∀ v:Int,(if v<0 then max (v+n) 0 else min v n)=((clipAt n v:Nat):Int):=λv=>by
  rw[clipAt_cast];by_cases h:v<0
  ·rw[if_pos h,if_pos h,Int.max_comm,dQ (by lia)]
  ·rw[if_neg h,if_neg h,cI (Int.le_min.mpr ⟨Int.not_lt.mp h,aJ n⟩)]
 unfold Builtin.Slice.sliceAdjust;have h1:¬ ((1:Int)<0):=by decide
 simp only[h1,if_false]
 cases lo<;>cases hi<;>simp only[dX,key]<;>rfl
theorem cg0(i j:Nat):Builtin.Slice.slicePlaces (i:Int) (j:Int) 1=j-i:=by
 unfold Builtin.Slice.slicePlaces;have h1:(1:Int) > 0:=by decide
 simp only[h1,if_true,Int.ediv_one]
 split<;>lia
theorem ca8{sl:Addr}{lo hi:Option Int}{vl vu:Value}{n:Nat}{Q:Int×Int×Nat->Shared->Prop}(hs:s.heap.IsSliceOf sl vl vu .none)(pl:IsPart vl lo)(pu:IsPart vu hi)
  (h:Q (((lo.elim 0 (clipAt n):Nat):Int),1,(hi.elim n (clipAt n))-(lo.elim 0 (clipAt n))) s):wpAny (model prog w) A (Builtin.Slice.sliceApplied (.ref sl) (pure (n:Int))) Q E s:=by
 refine i8 (id hs) λos hos hcs hds=>?_
 unfold Builtin.Slice.sliceApplied Builtin.Slice.sliceFields;refine wpAny_bind (wpAny_bind (wpAny_field hos hds (x:=vl) rfl (wpAny_bind (wpAny_field hos hds (x:=vu) rfl (wpAny_bind (wpAny_field hos hds (x:=.none) rfl (wpAny_pure ?_)))))));refine wpAny_bind (dg ?_);show wpAny _ _ (if ((1:Int)==0)=true then _ else _) _ _ s
 rw[if_neg (by decide)]
 refine wpAny_bind (ay0 pl (wpAny_bind (ay0 pu (wpAny_bind (wpAny_pure ?_)))));show wpAny _ _ (match Builtin.Slice.sliceAdjust lo hi 1 (n:Int) with | (lo,hi)=>pure (lo,(1:Int),Builtin.Slice.slicePlaces lo hi 1)) _ _ s
 rw[ca3];show wpAny _ _ (pure (((lo.elim 0 (clipAt n):Nat):Int),(1:Int),Builtin.Slice.slicePlaces ((lo.elim 0 (clipAt n):Nat):Int) ((hi.elim n (clipAt n):Nat):Int) 1)) _ _ s;rw[cg0];exact wpAny_pure h
theorem br1(xs:Array Value)(i k:Nat):((List.range k).filterMap fun(j:Nat)=>xs[((i:Int)+(j:Int)*1).toNat]?).toArray=((xs.toList.drop i).take k).toArray:=by
 have e:(fun(j:Nat)=>xs[((i:Int)+(j:Int)*1).toNat]?)=λj=>xs[i+j]?:=by
  funext j
  have:((i:Int)+(j:Int)*1).toNat=i+j:=by rw[Int.mul_one];rfl
  rw[this]
 rw[e];have:=pick_run xs i k;rw[List.filterMap_map] at this;have e2:((λx=>xs[x]?)∘λx=>i+x)=λk=>xs[i+k]?:=rfl
 rw[e2] at this;rw[this]
theorem ci2{t sl:Addr}{items:Array Value}{lo hi:Option Int}{vl vu:Value}{Q:Value->Shared->Prop}(ht:PyProof.Rows.IsTup s.heap t items)(hs:s.heap.IsSliceOf sl vl vu .none)(pl:IsPart vl lo)(pu:IsPart vu hi)
  (h0:slc lo hi items.toList=items.toList->Q (.ref t) s)
  (h:Q (.ref s.heap.objs.size) {s with heap:=s.heap.push {cls:=.type "tuple",data:=.seq (slc lo hi items.toList).toArray}})
  (hsz:items.size<=sizeLine):wpAny (model prog w) A (getItem (.ref t) (.ref sl)) Q E s:=by
 have hln:items.toList.length=items.size:=ao;have hok:sizeOk (.seq (slc lo hi items.toList).toArray):=by
  show(slc lo hi items.toList).toArray.size<=sizeLine;rw[List.size_toArray];exact al (cR _ _) (al (by rw[cg];exact Nat.sub_le _ _) (hln▸hsz))
 refine i8 (id hs) λos hos hcs hds=>?_
 have hTs:s.TypeIs (.ref sl) "slice":=⟨os,hos,hcs⟩;unfold getItem
 try with_reducible refine wpAny_holding ?_
 first | refine wpAny_bind (wpAny_pure ?_) | skip
 refine wpAny_bind (wpAny_sequenceKey ht.typeIs (by decide) ?_)
 refine wpAny_bind (wpAny_callSpecial?_slot (name:=Str.ofString "__getitem__") ht.typeIs cO
  (wpAny_call_entry cO ht.typeIs PyProof.Rows.entry_tuple_getitem ?_ (PyProof.Rows.args_tuple_getitem _ _)))
 show wpAny _ _ (Builtin.Tuple.tupleItemsOf (.ref t) >>= _) _ _ s;refine wpAny_bind (PyProof.Rows.tupleItemsOf_ ht ?_);refine wpAny_bind (wpAny_typeOf hTs ?_);rw[if_pos (by decide)]
 refine wpAny_bind (ca8 hs pl pu ?_);generalize hi':lo.elim 0 (clipAt items.size)=i at *;generalize hj':hi.elim items.size (clipAt items.size)=j at *;have hslc:slc lo hi items.toList=(items.toList.drop i).take (j-i):=by
  unfold slc;rw[hln,hi',hj']
 by_cases hc:((i:Int)==0&&(1:Int)==1&&(j-i)==items.size)=true
 ·show wpAny _ _ (if ((i:Int)==0&&(1:Int)==1&&(j-i)==items.size)=true then _ else _) _ _ s
  rw[if_pos hc];have hi0:i=0:=by simp at hc;lia
  have hj0:j-i=items.size:=by simp at hc;lia
  have he:slc lo hi items.toList=items.toList:=by
   rw[hslc,hi0,List.drop_zero,hi0] at *;rw[hj0,<- hln,bF]
  refine wpAny_bind (m:=Builtin.Tuple.tupleIsExact _) ?_;unfold Builtin.Tuple.tupleIsExact;refine wpAny_bind (wpAny_typeOf ht.typeIs (wpAny_pure ?_));rw[if_pos (by decide)]
  exact wpAny_bind (wpAny_rule (wpAny_bind (wpAny_pure (wpAny_pure ⟨_,rfl,wpAny_pure (h0 he)⟩))))
 ·show wpAny _ _ (if ((i:Int)==0&&(1:Int)==1&&(j-i)==items.size)=true then _ else _) _ _ s
  rw[if_neg hc,br1 items i (j-i)];rw[hslc] at h hok;first
   | exact wpAny_bind (m:=Builtin.Tuple.tupleExact _) (wpAny_newObj_type (wpAny_pure ⟨_,rfl,wpAny_pure h⟩) hok)
   | exact wpAny_bind (m:=Builtin.Tuple.tupleExact _) (wpAny_newObj_type (wpAny_bind (wpAny_pure (wpAny_pure ⟨_,rfl,wpAny_pure h⟩))) hok)
   | exact wpAny_bind (wpAny_bind (m:=Builtin.Tuple.tupleExact _) (wpAny_newObj_type (wpAny_pure (wpAny_pure ⟨_,rfl,wpAny_pure h⟩)) hok))
   | exact wpAny_bind (wpAny_bind (m:=Builtin.Tuple.tupleExact _) (wpAny_newObj_type (wpAny_pure ⟨_,rfl,wpAny_pure h⟩) hok))
end
def EvO(g:G)(F:Blk)(e:Option Expr)(Z:List (Option V))(Y:Hp)(Q:V->Hp->Prop)(X:Str->Hp->Prop):Prop:=
 ∀ A env s,Inv g F A env Z Y s->wpAny (model g.prog g.w) A (evalPart e env) (l9 g F A env Z Y s Q) (k9 g F A env Z Y s X) s
def Slc(g:G)(F:Blk)(a:V)(lo hi:Option Int)(Z:List (Option V))(Y:Hp)(Q:V->Hp->Prop)(X:Str->Hp->Prop):Prop:=
 ∀ A env s x sl vl vu,Inv g F A env Z Y s->Rep s.heap x a->s.heap.IsSliceOf sl vl vu .none->IsPart vl lo->IsPart vu hi->∃ T id,s.TypeIs x T/\typeLookup (.type T) "__getitem__" = pure (some (.builtin id))/\
  wpAny (model g.prog g.w) A (getItem x (.ref sl)) (l9 g F A env Z Y s Q) (k9 g F A env Z Y s X) s
section
variable{g:G}{F:Blk}{Z:List (Option V)}{Y:Hp}{Q:V->Hp->Prop}{QB:Bool->Hp->Prop}{X:Str->Hp->Prop}
theorem bp2(h:Q .none Y):EvO g F none Z Y Q X:=(λA env s I=>wpAny_evalPart_none (B8 I .none h))
theorem bk0{e:Expr}(h:Ev g F e Z Y Q X):EvO g F (some e) Z Y Q X:=(λA env s I=>wpAny_evalPart_some (h A env s I))
theorem bF6{value:Expr}{lo hi:Option Expr}{p pos:Pos}(h:Ev g F value Z Y (λa zs=>EvO g F lo Z zs (λl Y2=>EvO g F hi Z Y2 (λu Y3=>∃ kl ku,OptInt l kl/\OptInt u ku/\Slc g F a kl ku Z Y3 Q X) X) X) X) :
  Ev g F (.Subscript value (.Slice lo hi none p) pos) Z Y Q X:=(λA env s I=>by
 refine PyProof.Rows.Subscript_ (pgo (h A env s I) (λa sv Va zs ra I1 st1 h1=>?_) λz_ z_ p=>p)
 refine wpAny_Slice (pgo (h1 A env sv I1) (λl s2 Vl Y2 rl sw st2 h2=>?_) λz_ z_ p=>p.step st1)
 have st12:=st1.trans st2;refine pgo (h2 A env s2 sw) (λu s3 Vu Y3 ru I3 st3 hpq=>?_) λz_ z_ p=>p.step st12
 refine g7 hpq λkl ku ol ou h3=>?_
 have st13:=st12.trans st3;refine wpAny_evalPart_none ?_;have stp:Step (inF A) f2 Y3 Y3 s3 {s3 with heap:=s3.heap.push {cls:=.type "slice",data:=.fields #[l,u,.none]}}:=Step.push
 have I4:=I3.keep stp I3.sim.push;refine g7 (h3 A env _ a s3.heap.objs.size l u I4 (ra.mono ((st2.tups.trans st3.tups).trans stp.tups)) (Heap.IsSliceOf.new ..) (ol.part (rl.mono st3.tups)) (ou.part ru)) λT id hT hl hw=>?_
 have st14:=st13.trans stp;exact eA hT hl (wpAny_mono hw (λz_ z_ p=>p.step st14) λz_ z_ p=>p.step st14) rfl)
theorem bY1{l:List V}{lo hi:Option Int}(hz:l.length<=sizeLine)(h:Q (.tup (slc lo hi l)) Y):Slc g F (.tup l) lo hi Z Y Q X:=(λA env s x sl vl vu I r hs pl pu=>by
  refine l6 r.ofTup λa us n q1_ ht rl=>?_;subst q1_
  have e:us.size=l.length:=by rw[<- rl.length,ao]
  refine⟨"tuple",_,⟨_,ht,rfl⟩,PySem.F.slot_tuple_getitem.lookup,ci2 ⟨_,ht,rfl,_,rfl⟩ hs pl pu (λe0=>?_) (W3 I (rl.slc lo hi) h) (by lia)⟩
  have r2:=rl.slc lo hi;rw[e0] at r2;exact B8 I (.tup ht r2) h)
theorem aR3{a:Addr}{l:List V}{lo hi:Option Int}(hY:Y a=some (.lst l))(hz:l.length<=sizeLine)(h:∀ b,Y b=none->Q (.ref b) (upd Y b (.lst (slc lo hi l)))):Slc g F (.ref a) lo hi Z Y Q X:=(λA env s x sl vl vu I r hs pl pu=>by
 obtain rfl:=r.ofRef;refine a9 ((I.sim.objs a _ hY).1) λus hp rl=>?_
 have e:us.size=l.length:=by rw[<- rl.length,ao]
 refine⟨"list",_,hp.isList.typeIs,slot_list_getitem.lookup,wpAny_getItem_list_slice hp.isList hs pl pu .none (by simp) ?_ (by lia)⟩
 have p:=ah5 (Q:=Q) I (rl.slc lo hi) h;have e2:slicePick us lo hi none=(slc lo hi us.toList).toArray:=by
  rw[slicePick_plain];unfold slc;rw[ao]
 rw[e2];exact p)
theorem T4{A env s}{a:Addr}{o o':AObj}{h':Heap}{tk:Nat}{fr own:Addr->Prop}(I:Inv g F A env Z Y s)(hY:Y a=some o)(r:u8 g h' a o')(hs:Heap.SameBut a s.heap h')(tu:l8 s.heap h')(hk:∀ ob,s.heap.get? a=some ob->IsD ob->∃ ob',h'.get? a=some ob'/\IsD ob') :
  Inv g F A env Z (upd Y a o') {s with heap:=h',toks:=tk}/\Step fr own Y (upd Y a o') s {s with heap:=h',toks:=tk}:=by
 have ne:∀ b,Y b=none->b≠a:=λb hb q=>by rw[q,hY] at hb;exact B5 hb
 have hb0:=(I.sim.objs a _ hY).2;refine c6 r.has λob' ho'=>?_
 have st:∀ fr' own':Addr->Prop,Step fr' own' Y (upd Y a o') s {s with heap:=h',toks:=tk}:=λfr' own'=>⟨⟨rfl,rfl⟩,λb o e=>by
   by_cases q:b=a
   ·subst q
    refine⟨ob',ho',λd=>?_⟩
    refine a9 (hk o e d) λo2 e2 d2=>?_
    rw[ho'] at e2;replace e2:=i5 e2;subst e2;exact d2
   ·exact⟨o,(hs.2 b q).trans e,id⟩,λb o e hYb z_=>⟨o,(hs.2 b (ne b hYb)).trans e,.inl rfl⟩,tu,λb o e hYb=>by rw[d8 _ _ (ne b hYb)];exact hYb⟩
 refine⟨I.keep (st _ f2) ⟨λb o e=>(hs.2 b (λq=>by rw[q,hb0] at e;exact f9 e)).trans (I.sim.stays b o e),λb o e=>?_⟩,st fr own⟩
 by_cases q:b=a
 ·subst q
  rw[d3] at e;exact Option.some.inj e▸⟨r,hb0⟩
 ·rw[d8 _ _ q] at e
  exact⟨(I.sim.objs b o e).1.keep tu λob hob=>(hs.2 b q).trans hob,(I.sim.objs b o e).2⟩
theorem U3{h h':Heap}{a:Addr}{vs:Array Value}(hs:Heap.SameBut a h h')(hl:h.PlainList a vs):l8 h h':=λb ws n e=>by
 refine c6 hl λm ho=>?_
 exact(hs.2 b (λq=>by rw[q,ho] at e;simp at e)).trans e
theorem af1{A env s}{a:Addr}{l:List V}{us:Array Value}{h':Heap}{tk:Nat}{fr own:Addr->Prop}(I:Inv g F A env Z Y s)(hY:∃ o,Y a=some o)(hp:h'.PlainList a us)(rl:d5 h' us.toList l)(hs:Heap.SameBut a s.heap h')(hlist:∃ vs,s.heap.PlainList a vs) :
  Inv g F A env Z (upd Y a (.lst l)) {s with heap:=h',toks:=tk}/\Step fr own Y (upd Y a (.lst l)) s {s with heap:=h',toks:=tk}:=by
 refine c6 hY λo0 ho0=>?_
 refine c6 hlist λvs hvs=>?_
 exact T4 I ho0 ⟨us,hp,rl⟩ hs (U3 hs hvs) λob e d=>by
  refine c6 hvs λn e'=>?_
  refine p9 d λes ep d=>?_
  rw[e'] at e;replace e:=i5 e;subst e;cases d
theorem d5.set{h:Heap}{vs:List Value}{l:List V}(i:Nat){v:Value}{x:V}(r:d5 h vs l)(q:Rep h v x):d5 h (vs.set i v) (l.set i x):=by
 induction l generalizing vs i with
 | nil=>rw[r.ofNil];exact .nil
 | cons y l ih=>
  refine g7 r.ofCons λu us q1_ r1 r2=>?_;subst q1_
  cases i with
  | zero=>exact .cons q r2
  | succ i=>exact .cons r1 (ih i r2)
theorem bu4{prog:Program}{w:World}{A:Around}{E:Value->Shared->Prop}{s:Shared}{l:Addr}{items:Array Value}{n:Nat}{k:Int}{t:Tok}{v:Value}{QU:Unit->Shared->Prop}(ho:s.heap.get? l=some {cls:=.type "list",data:=.seq items n})
  (h0:0<=k) (hfit:k<2 ^ 63) (hn:k<items.size) (hQ:QU () {s with heap:=s.heap.update l (bj (·.setIfInBounds k.toNat v))}) :
  wpAny (model prog w) A (setItem (.ref l) (.int k t) v) QU E s:=by
 have hl:s.heap.IsList l items:=⟨_,ho,rfl,n,rfl⟩;unfold setItem
 try with_reducible refine wpAny_holding ?_
 first | refine wpAny_bind (wpAny_pure ?_) | skip
 refine wpAny_bind (wpAny_sequenceKey hl.typeIs (by decide) ?_)
 refine wpAny_bind (wpAny_callSpecial?_slot (name:=Str.ofString "__setitem__") hl.typeIs slot_list_setitem
  (wpAny_call_entry slot_list_setitem hl.typeIs entry_list_setitem ?_ (args_list_setitem _ _ _)))
 show wpAny _ _ (Builtin.List.listSubscript? (.int k t) >>= _) _ _ s;refine wpAny_bind (wpAny_listSubscript_int (fitsIndex_of h0 hfit) ?_);clear hfit;refine c6 (aT h0) λj q1_=>?_;subst q1_
 have hj:j<items.size:=by lia
 have hx':items[j]?=some items[j]:=aO hj;show wpAny _ _ ((seqItemAt l j >>= λr=>pure (r.map (j,·))) >>= _) _ _ s
 refine wpAny_bind (wpAny_bind (wpAny_seqItemAt ho rfl (wpAny_pure ?_)));rw[hx'];show wpAny _ _ (setSeqItemAt l j v >>= _) _ _ s;refine wpAny_bind (wpAny_setSeqItemAt ho rfl ?_);first
  | exact wpAny_bind (wpAny_pure (wpAny_pure ⟨.none,rfl,wpAny_pure hQ⟩))
  | exact wpAny_pure ⟨.none,rfl,wpAny_pure hQ⟩
def StI(g:G)(F:Blk)(a k v:V)(Z:List (Option V))(Y:Hp)(K:Hp->Prop):Prop:=
 ∀ A env s x y z (E:Value->Shared->Prop),Inv g F A env Z Y s->Rep s.heap x a->Rep s.heap y k->Rep s.heap z v->wpAny (model g.prog g.w) A (setItem x y z) (λz_ s'=>∃ Y',Inv g F A env Z Y' s'/\Step (inF A) (i9 env) Y Y' s s'/\K Y') E s
theorem aW2{QS:d6}{XS:j3}{o i value:Expr}{p' pos:Pos}(h:Ev g F value Z Y (λv zs=>Ev g F o Z zs (λa Y2=>Ev g F i Z Y2 (λk Y3=>StI g F a k v Z Y3 (λY=>QS .next Z Y)) (λx zs=>XS x Z zs)) (λx zs=>XS x Z zs)) (λx zs=>XS x Z zs))
  (hs:∀ env,swapsWith value (some (.Subscript o i p')) pos.line env=pure false):Ex g F (.Assign [.Subscript o i p'] value pos) Z Y QS XS:=(λA env s I=>by
 refine wpAny_Assign_Subscript (pgo (h A env s I) (λv sv Vv zs rv I1 st1 h1=>?_) λz_ z_ p=>p.toS) (hs env)
 refine pgo (h1 A env sv I1) (λa s2 Va Y2 ra sw st2 h2=>?_) λz_ z_ p=>(p.step st1).toS
 have st12:=st1.trans st2;refine pgo (h2 A env s2 sw) (λk s3 Vk Y3 rk I3 st3 h3=>?_) λz_ z_ p=>(p.step st12).toS
 refine wpAny_mono (h3 A env s3 a k v _ I3 (ra.mono st3.tups) rk (rv.mono (st2.tups.trans st3.tups))) (λz_ s' p=>?_) λz_ z_ p=>p
 refine i8 p λY' I' st' q=>?_
 exact(λz_ k_=>k_ .next Z Y' .next I' (((st12.trans st3).mono λz_ h=>h.elim).trans st') q))
theorem bt0{b:Addr}{l:List V}{n:Int}{v:V}{K:Hp->Prop}(hY:Y b=some (.lst l))(h0:0<=n)(hn:n<l.length)(hf:(l.length:Int)<2 ^ 63)(hQ:K (upd Y b (.lst (l.set n.toNat v)))):StI g F (.ref b) (.int n) v Z Y K:=(λA env s x y z E I rx ry rz=>by
 obtain rfl:=rx.ofRef;refine c6 ry.ofInt λz_ q1_=>?_;subst q1_
 refine a9 ((I.sim.objs b _ hY).1) λus hp rl=>?_
 have e:us.size=l.length:=by rw[<- rl.length,ao]
 refine c6 (id hp) λc hc=>?_
 refine bu4 hc h0 (Int.lt_trans hn hf) (by rw[e];exact hn) ?_
 have hs':Heap.SameBut b s.heap (s.heap.update b (bj (·.setIfInBounds n.toNat z))):=Heap.SameBut.update ..
 generalize hh':s.heap.update b (bj (·.setIfInBounds n.toNat z))=h' at hs' ⊢
 have hp':h'.PlainList b (us.setIfInBounds n.toNat z):=⟨_,by rw[<- hh'];exact bo _ hc rfl⟩
 have tu:=U3 hs' hp;obtain⟨I4,st4⟩:=af1 (own:=i9 env) (tk:=s.toks) (l:=l.set n.toNat v) I ⟨_,hY⟩ hp' (by rw[Array.toList_setIfInBounds];exact(rl.mono tu).set _ (rz.mono tu)) hs' ⟨us,hp⟩
 exact⟨_,I4,st4,hQ⟩)
theorem aO1{o:Expr}{name:Str}{apos pos:Pos}{args:List Expr}{id:String}(slot:Slot "list" name id)(hty:typeOf (.builtin id)=pure (.type "method_descriptor"))
  (h:Ev g F o Z Y (λv zs=>∃ a l,v=.ref a/\zs a=some (.lst l)/\Evs g F args Z zs (λvs Y2=>Cl g F (.builtin id) (.ref a::vs) Z Y2 Q X) X) X)
  (hline:(apos.endLine==pos.line)=true) (hbase:∀ env,attributeBase o name env (eval o env)=eval o env)
  (hfew:∀ env,((backTo pos (starEach args env)).all (λx=>!x.1)&&(backToKw pos (keywordEach [] env)).all (λx=>x.1.isSome)
   && decide (args.length+([]:List Keyword).length+(if ([]:List Keyword).isEmpty then 0 else 1)<30))=true) :
  Ev g F (.Call (.Attribute o name apos) args [] pos) Z Y Q X:=(λA env s I=>by
 refine wpAny_Call_method (hbase env) (hfew env) hline PySem.F.plainAttrs_list slot hty (pgo (h A env s I) (λov sv V zs r I1 st1 hpq=>?_) λz_ z_ p=>p)
 refine g7 hpq λa l hv hY h1=>?_
 subst hv;obtain rfl:=r.ofRef;obtain⟨us,⟨n,hp⟩,rl⟩:=(I1.sim.objs a _ hY).1;refine⟨⟨_,hp,rfl⟩,λb e=>by cases e;exact⟨_,hp,rfl⟩,?_⟩
 refine c5 (h1 A env sv pos I1) λhw hpl=>?_
 refine bh hpl (x9 hpl (K7 hw (λvs s2 Vs Y2 rs sw st2 q=>?_) λz_ z_ p=>p.step st1))
 have st12:=st1.trans st2;exact wpAny_mono (q A env s2 (.ref a::vs) sw (.cons (.ref a) rs)) (λz_ z_ p=>p.step st12) λz_ z_ p=>p.step st12)
theorem bO3{a:Addr}{l:List V}{v:V}(hY:Y a=some (.lst l))(hz:l.length<=sizeLine)(h:Q .none (upd Y a (.lst (l++[v])))):Cl g F (.builtin "list.append") [.ref a,v] Z Y Q X:=(λA env s vs I r=>by
  refine g7 r.two λz_ z_ q1_ r0 r'=>?_;subst q1_
  obtain rfl:=r0.ofRef;refine a9 ((I.sim.objs a _ hY).1) λus hp rl=>?_
  have e:us.size=l.length:=by rw[<- rl.length,ao]
  refine c6 (id hp) λc hc=>?_
  refine wpAny_list_append_plain (hsz:=by lia) hp λh' hl' hs'=>?_
  have tu:=U3 hs' hp;obtain⟨I4,st4⟩:=af1 (own:=f2) (tk:=s.toks) (l:=l++[v]) I ⟨_,hY⟩ hl' (by rw[cF];exact(rl.mono tu).append (.cons (r'.mono tu) .nil)) hs' ⟨us,hp⟩
  exact(λz_ k_=>k_ .none _ .none I4 st4 h))
theorem bs8{QS:d6}{XS:j3}{e:Expr}{pos:Pos}(h:Ev g F e Z Y (λz_ zs=>QS .next Z zs) (λx zs=>XS x Z zs))(hs:∀ env,swapsWith e none pos.line env=pure false):Ex g F (.Expr e pos) Z Y QS XS:=(λA env s I=>
 wpAny_Expr_any (pgo (h A env s I) (λv sv V zs r I1 st1 q=>(λz_ k_=>k_ .next Z zs .next I1 (st1.mono λz_ h=>h.elim) q)) λz_ z_ p=>p.toS)
  (by unfold interactive;rw[I.fn];rfl) (hs env))
theorem d5.bools{h:Heap}{vs:List Value}{bs:List Bool}(r:d5 h vs (bs.map .bool)):vs=bs.map .bool:=by
 induction bs generalizing vs with
 | nil=>exact r.ofNil
 | cons b bs ih=>refine g7 r.ofCons λv us q1_ r1 r2=>?_;subst q1_;rw[r1.ofBool,ih r2];rfl
theorem by4{a:Addr}{bs:List Bool}(hq:F.q=true)(hY:Y a=some (.lst (bs.map .bool)))(h:Q (.bool (bs.all id)) Y):Cl g F (.builtin "all") [.ref a] Z Y Q X:=(λA env s vs I r=>by
  refine a9 r.one λz_ q1_ r0=>?_;subst q1_
  obtain rfl:=r0.ofRef;refine a9 ((I.sim.objs a _ hY).1) λus hp rl=>?_
  have hus:=rl.bools;have hsz:us.size=bs.length:=by rw[<- ao,hus,aa]
  have hfr:s.heap.get? s.heap.objs.size=none:=u6 _;refine call_all_walk (wpAny_pyIter_list hp.isList ?_);have hne:a≠s.heap.objs.size:=λq=>by refine c6 hp λc hc=>?_;rw[q,hfr] at hc;exact f9 hc
  refine⟨_,_,_,_,_,_,λi=>bs.getD i true,rfl,Walks.list (A:=A.in1) (I.quiet hq) s.heap.objs.size a hne us,⟨⟨_,an _ rfl,rfl,rfl⟩,hp.isList.push _⟩,λi v s' QB' E' hP hQ'=>?_,λh' tk hk=>?_⟩
  ·dsimp only at hP hQ'
   have:us.toList[i]?=some v:=by rw[av];exact hP
   rw[hus,aq] at this;refine a9 (aA.mp this) λb hb q1_=>?_;subst q1_
   refine wpAny_truthy_bool ?_;have e:bs.getD i true=b:=by rw[aw,hb];rfl
   rw[e] at hQ';exact hQ'
  ·have hk':∀ b o,s.heap.get? b=some o->h'.get? b=some o:=λb o e=>hk b o (λq=>by simp at q;rw[q,hfr] at e;exact f9 e) (ag _ e)
   have e:(List.range us.size).all (λi=>bs.getD i true)=bs.all id:=by
    rw[hsz,cS,aB,aB];constructor
    ·intro hall b hb
     obtain⟨i,hi,rfl⟩:=cq hb;have:=hall i (bc.mpr hi);rw[aw,ae hi] at this;exact this
    ·intro hall i hi
     have hi':=bc.mp hi;rw[aw,ae hi'];exact hall _ (bv hi')
   rw[e];have st:Step (inF A) f2 Y Y s {s with heap:=h',toks:=tk}:=Step.grow hk'
   exact(λz_ k_=>k_ (.bool _) Y (.bool _) (I.keep st (I.sim.grow hk')) st h))
end
noncomputable def Scr(g:G)(a:Addr)(ns:List Int):Prop:=∃ vs:Array Value,g.h₀.IsList a vs/\∀ h,d5 h vs.toList (ns.map .int)
section
variable{g:G}{F:Blk}{Z:List (Option V)}{Y:Hp}{Q:V->Hp->Prop}{QB:Bool->Hp->Prop}{X:Str->Hp->Prop}
theorem bs1{a:Addr}{ns:List Int}(hs:Scr g a ns)(hfit:(ns.length:Int)<2 ^ 63)(h:Q (.int ns.length) Y):Cl g F (.builtin "len") [.ref a] Z Y Q X:=(λA env s vs I r=>by
   refine a9 hs λus hl rl=>?_
   refine a9 r.one λz_ q1_ r0=>?_;subst q1_
   obtain rfl:=r0.ofRef;have hl':s.heap.IsList a us:=by refine a9 hl λo ho q=>?_;exact⟨o,I.sim.stays _ _ ho,q⟩
   have e:((us.size:Nat):Int)=(ns.length:Int):=by have:=(rl s.heap).length;rw[ao,aa] at this;lia
   refine eM hl' (by rw[e];exact hfit) ?_
   rw[e];exact B3 I h)
theorem ax7{a:Addr}{ns:List Int}{k x:Int}(hs:Scr g a ns)(h0:0<=k)(hhi:k<2 ^ 63)(hx:ns[k.toNat]?=some x)(h:Q (.int x) Y):Itm g F (.ref a) (.int k) Z Y Q X:=(λA env s v y I rx ry=>by
 refine a9 hs λus hl rl=>?_
 obtain rfl:=rx.ofRef;refine c6 ry.ofInt λz_ q1_=>?_;subst q1_
 have hl':s.heap.IsList a us:=by refine a9 hl λo ho q=>?_;exact⟨o,I.sim.stays _ _ ho,q⟩
 obtain⟨w,hw,rw'⟩:=(rl s.heap).get (i:=k.toNat) (x:=.int x) (by rw[aq,hx];rfl)
 exact⟨"list",_,hl'.typeIs,slot_list_getitem.lookup,wpAny_getItem_list hl' h0 hhi (x:=w) (by rw[<- av];exact hw) (B8 I rw' h)⟩)
structure AsgL(g:G)(F:Blk)(es:List Expr)(l:List V)(Z:List (Option V))(Y:Hp)(Q:List (Option V)->Prop):Prop where
 run:∀ A env s xs (QU:Unit->Shared->Prop) (E:Value->Shared->Prop),Inv g F A env Z Y s->d5 s.heap xs l->
  (∀ s' Z',Inv g F A env Z' Y s'->Step (inF A) (i9 env) Y Y s s'->Q Z'->QU () s')->wpAny (model g.prog g.w) A (assignInOrder ((assignEach es env).map (·.2)) xs) QU E s
 len:∀ env,(assignEach es env).length=l.length
 star:∀ env,(assignEach es env).findIdx? (·.1)=none
theorem aV1{P:List (Option V)->Prop}(h:P Z):AsgL g F [] [] Z Y P:=⟨λA env s xs QU E I r k=>wpAny_pure (k s Z I Step.refl h),λz_=>rfl,λz_=>rfl⟩
theorem bd3{x:Str}{p:Pos}{es:List Expr}{v:V}{l:List V}{i:Nat}{w:Option V}{P:List (Option V)->Prop}(hx:F.vars[i]?=some x)(hw:Z[i]?=some w)(h:AsgL g F es l (Z.set i (some v)) Y P):AsgL g F (.Name x p::es) (v::l) Z Y P:=
 ⟨λA env s xs QU E I r k=>by
   refine g7 r.ofCons λz_ z_ q1_ r0 rs=>?_;subst q1_
   show wpAny _ A (do holding _ (assign (.Name x p) env _);assignInOrder ((assignEach es env).map (·.2)) _) QU E s
   refine wpAny_bind (wpAny_holding (wpAny_assign_Name (G6 I hx hw r0 λs' I' st=>?_)))
   exact h.run A env s' _ QU E I' (rs.mono st.tups) λs'' Z'' I'' st'' hP=>k s'' Z'' I'' (st.trans st'') hP,λenv=>by
  show((false,assign (.Name x p) env)::assignEach es env).length=_;rw[az,h.len env,az],λenv=>by
  show((false,assign (.Name x p) env)::assignEach es env).findIdx? _=none;rw[dh,h.star env];rfl⟩
theorem ah4{es:List Expr}{k:Nat}{p:Pos}{l:List V}{P:List (Option V)->Prop}(h:AsgL g F es l Z Y P):Asg g F (.Tuple es k p) (.tup l) Z Y P:=
 ⟨λA env s x QU E I hh r kk=>by
   refine l6 r.ofTup λa us n q1_ ht rl=>?_;subst q1_
   have e:us.size=l.length:=by rw[<- rl.length,ao]
   refine wpAny_assign_Tuple hh ⟨_,ht,rfl,_,rfl⟩ (by rw[h.len env,e]) (h.star env) λh' hx=>?_
   have st:∀ own,Step (inF A) own Y Y s {s with heap:=h'}:=λown=>Step.grow (tk:=s.toks) λb o e=>hx b o (bb (aE e)) e
   have hk:∀ b o,s.heap.get? b=some o->h'.get? b=some o:=λb o e=>hx b o (bb (aE e)) e
   refine h.run A env _ _ QU E (I.keep (st f2) (I.sim.grow hk)) (rl.mono (st f2).tups) λs'' Z'' I'' st'' hP=>kk s'' Z'' I'' ((st _).trans st'') hP,.inr ⟨es,k,p,rfl⟩⟩
end
section
variable{g:G}{sc:Scope}{vs:List Str}{d:Nat}{q:Bool}{Z:List (Option V)}{Y:Hp}{Q:V->Hp->Prop}{QB:Bool->Hp->Prop}{X:Str->Hp->Prop}
noncomputable def Bi(g:G)(x:Str)(v:Value):Prop:=g.mg x=none/\g.mb x=some v
theorem u_b{x:Str}{np pos:Pos}{args:List Expr}{id:String}(hb:Bi g x (.builtin id))(hk:sc.names.lookup x=some .globalImplicit)
  (h:Evs g ⟨sc,vs,d,q⟩ args Z Y (λus zs=>Cl g ⟨sc,vs,d,q⟩ (.builtin id) us Z zs Q X) X) (hd:(x==("__debug__" : Str))=false):Ev g ⟨sc,vs,d,q⟩ (.Call (.Name x np) args [] pos) Z Y Q X:=bi5 hk hb.1 hb.2 h hd
theorem u_t{x:Str}{np pos:Pos}{args:List Expr}{id:String}(hb:Bi g x (.type id))(hk:sc.names.lookup x=some .globalImplicit)
  (h:Evs g ⟨sc,vs,d,q⟩ args Z Y (λus zs=>Cl g ⟨sc,vs,d,q⟩ (.type id) us Z zs Q X) X) (hd:(x==("__debug__" : Str))=false):Ev g ⟨sc,vs,d,q⟩ (.Call (.Name x np) args [] pos) Z Y Q X:=aT4 hk hb.1 hb.2 h hd
theorem an4{x t:Str}{np tp pos:Pos}{e:Expr}{tn:String}(hb:Bi g x (.builtin "isinstance"))(hbt:Bi g t (.type tn))(hk:sc.names.lookup x=some .globalImplicit)(hkt:sc.names.lookup t=some .globalImplicit)
  (h:Ev g ⟨sc,vs,d,q⟩ e Z Y (λv zs=>Op1 g ⟨sc,vs,d,q⟩ (λy=>call (.builtin "isinstance") [y,.type tn]) v Z zs Q X) X) (hd:(x==("__debug__" : Str))=false) (hdt:(t==("__debug__" : Str))=false)
  (he:∀ env,starEach [e,.Name t tp] env=(false,eval e env)::starEach [.Name t tp] env):Ev g ⟨sc,vs,d,q⟩ (.Call (.Name x np) [e,.Name t tp] [] pos) Z Y Q X:=bg2 hk hb.1 hb.2 hkt hbt.1 hbt.2 h hd hdt he
theorem aE5{x:Str}{np pos:Pos}{e:Expr}{QR:Int->Int->Int->Hp->Prop}(hb:Bi g x (.type "range"))(hk:sc.names.lookup x=some .globalImplicit)
  (h:Ev g ⟨sc,vs,d,q⟩ e Z Y (λv zs=>∃ n,v=.int n/\QR 0 n 1 zs) X) (hd:(x==("__debug__" : Str))=false) (he:∀ env,starEach [e] env=(false,eval e env)::starEach [] env):Rng g ⟨sc,vs,d,q⟩ (.Call (.Name x np) [e] [] pos) Z Y QR X:=bF7 hk hb.1 hb.2 h hd he
end
noncomputable def e9(p:Program)(k:Nat):PySem.DefRec:=match p.main.body[k]? with
 | some (.FunctionDef name params body _ _ _ scope _ _ pos)=>⟨name,params,body,scope,pos⟩
 | _=>⟨.ofString "",⟨[],[],none,[],[],none,[]⟩,[],default,default⟩
noncomputable def Fn(g:G)(x:Str):Prop:=∃ params body scope,FnAt g x params body scope
noncomputable def Gi(g:G)(x:Str)(i:Int):Prop:=∃ t,g.mg x=some (.int i t)
section
variable{g:G}{sc:Scope}{vs:List Str}{d:Nat}{q:Bool}{F:Blk}{Z:List (Option V)}{Y:Hp}{Q:V->Hp->Prop}{QB:Bool->Hp->Prop}{X:Str->Hp->Prop}
theorem bI0{x:Str}{np pos:Pos}{args:List Expr}(hf:Fn g x)(hk:sc.names.lookup x=some .globalImplicit)(hd:(x==("__debug__" : Str))=false)
  (h:Evs g ⟨sc,vs,d,q⟩ args Z Y (λus zs=>c7 g d q x us zs Q X) X):Ev g ⟨sc,vs,d,q⟩ (.Call (.Name x np) args [] pos) Z Y Q X:=
 by refine N2 hf λz_ z_ z_ hf=>?_;exact bw8 hf hk h hd
theorem bN1{x:Str}{pos:Pos}{i:Int}(hf:Gi g x i)(hk:sc.names.lookup x=some .globalImplicit)(hd:(x==("__debug__" : Str))=false)(h:Q (.int i) Y):Ev g ⟨sc,vs,d,q⟩ (.Name x pos) Z Y Q X:=
 by refine c6 hf λt hf=>?_;exact ap4 hk hf (λz_=>.int i t) h hd
theorem ca6{a b:Int}(hb:0<b)(h:Q (.int (a%b)) Y):Op2 g F (binaryOp .Mod) (.int a) (.int b) Z Y Q X:=bX6 (by lia) (by rw[Int.fmod_eq_emod_of_nonneg _ (by lia)];exact h)
theorem bu3{a b:Int}(hb:0<b)(hl:b<2 ^ 64)(h:Q (.int (a / b)) Y):Op2 g F (binaryOp .FloorDiv) (.int a) (.int b) Z Y Q X:=ci5 (eW hb) (by
 have hne:b.natAbs≠0:=Int.natAbs_ne_zero.mpr (eW hb);have:b.natAbs.log2<64:=(Nat.log2_lt hne).mpr (by lia)
 lia) (by rw[Int.fdiv_eq_ediv_of_nonneg _ (Int.le_of_lt hb)];exact h)
theorem aT3{a b:Int}(ha : -(2 ^ 60)<=a)(ha':a<=2 ^ 60)(h:Q (.int (a*b)) Y):Op2 g F (binaryOp .Mult) (.int a) (.int b) Z Y Q X:=ay5 h (PySem.IntMulOk.of_left (PySem.intBits_le_64 (by lia) (by lia)))
theorem bL3{a b:Int}(ha : -(2 ^ 60)<=b)(ha':b<=2 ^ 60)(h:Q (.int (a*b)) Y):Op2 g F (binaryOp .Mult) (.int a) (.int b) Z Y Q X:=ay5 h (PySem.IntMulOk.of_right (PySem.intBits_le_64 (by lia) (by lia)))
theorem l5{a b:Addr}{o x:AObj}(hb:Y b=some x)(hn:Y a=none):upd Y a o b=some x:=by rw[d8 Y o (λe=>by rw[e,hn] at hb;exact f9 hb)];exact hb
theorem ab8{a b:Addr}{o:AObj}(ha:Y b=none)(hab:b≠a):upd Y a o b=none:=by rw[d8 Y o hab];exact ha
theorem j7{a b:Addr}{o:AObj}(h:upd Y a o b=none):b≠a/\Y b=none:=by
 by_cases e:b=a
 ·subst e;rw[d3] at h;exact B5 h
 ·exact⟨e,by rw[d8 Y o e] at h;exact h⟩
theorem ai7{a b:Addr}{o x:AObj}(hb:Y b=some x)(hn:b≠a):upd Y a o b=some x:=by rw[d8 Y o hn];exact hb
theorem j5{a b:Addr}{x:AObj}(hb:Y b=some x)(hn:Y a=none):b≠a:=λe=>by rw[e,hn] at hb;exact f9 hb
theorem c7.mono{f:Str}{as:List V}{Q':V->Hp->Prop}(h:c7 g d q f as Y Q X)(k:∀ v Y,Q v Y->Q' v Y):c7 g d q f as Y Q' X:=(λA s vs a h1 h2 h3 h4 h5 h6 h7=>
 codeAny_mono (h A s vs a h1 h2 h3 h4 h5 h6 h7) (λr s' p=>by
  cases r with
  | error e=>exact p
  | ok f=>cases f with
   | ret v=>refine p _ ?_;intro V Y' a b c e;exact λz_ k_=>k_ V Y' a b c (k _ _ e)
   | _=>exact p.elim))
theorem Inv.sub{A env s Y'}(I:Inv g F A env Z Y s)(k:Sub Y' Y):Inv g F A env Z Y' s:=I.keep (Step.refl.sub k) (I.sim.sub k)
theorem Ev.drop{e:Expr}(h:Ev g F e Z Y (λv Y'=>∃ Y'',Sub Y'' Y'/\Q v Y'') (λx Y'=>∃ Y'',Sub Y'' Y'/\X x Y'')):Ev g F e Z Y Q X:=(λA env s I=>
 wpAny_mono (h A env s I) (λz_ z_ p=>by refine p _ ?_;clear p;rintro V Y' r i y ⟨Y'',k,q⟩;exact(λz_ k_=>k_ V Y'' r (i.sub k) (y.sub k) q)) λz_ z_ p=>by refine p _ ?_;clear p;rintro x Y' f i y ⟨Y'',k,q⟩;exact(λz_ k_=>k_ x Y'' (f.sub k) (i.sub k) (y.sub k) q))
theorem Ev.xmono{e:Expr}{X':Str->Hp->Prop}(h:Ev g F e Z Y Q X)(k:∀ v Y,X v Y->X' v Y):Ev g F e Z Y Q X':=(λA env s I=>
 wpAny_mono (h A env s I) (λz_ z_ p=>p) (λz_ z_ p=>by refine p _ ?_;clear p;rintro V Y' r i y q;exact(λz_ k_=>k_ V Y' r i y (k _ _ q))))
theorem D7{Y Y':Hp}{a:Addr}{o:AObj}(k:Sub Y' Y):Sub (upd Y' a o) (upd Y a o):=λb o' e=>by
 unfold upd at e ⊢
 split at e
 ·rw[if_pos ‹_›];exact e
 ·rw[if_neg ‹_›];exact k b o' e
theorem C4{fr own:Addr->Prop}{Y':Hp}{s s':Shared}{a:Addr}{o:AObj}(st:Step fr own Y Y' s s'):Step fr own (upd Y a o) (upd Y' a o) s s':=
 ⟨st.same,st.dom,λb ob hb hY ho=>st.keep b ob hb (j7 hY).2 ho,st.tups,λb ob hb hY=>by
  refine c5 (j7 hY) λh1 h2=>?_
  rw[d8 _ _ h1];exact st.new b ob hb h2⟩
theorem ab2{fr own:Addr->Prop}{Y':Hp}{s s':Shared}{a:Addr}{o:AObj}(r:u8 g s.heap a o)(hb:g.h₀.get? a=none)(sm:Sim g Y' s'.heap)(st:Step fr own Y Y' s s')(hown:¬ own a)(ha:Y a=none)(hfr:¬ fr a):Sim g (upd Y' a o) s'.heap/\Y' a=none:=by
 refine c6 r.has λob ho=>?_
 refine⟨⟨sm.stays,λb o' e=>?_⟩,st.new a _ ho ha⟩
 by_cases hba:b=a
 ·subst hba
  rw[d3] at e;exact Option.some.inj e▸⟨r.keep st.tups λob e=>st.exact e ha hown hfr,hb⟩
 ·rw[d8 _ _ hba] at e
  exact sm.objs b o' e
theorem FrL.sub{A:Around}{Y':Hp}{h:Heap}(x:FrL g A Y h)(k:Sub Y' Y):FrL g A Y' h:=by
 refine x _ ?_;clear x;rintro l hl all;refine(λz_ k_=>k_ l hl (λe he=>?_))
 refine(all e he) _ ?_;rintro L h1 h2 h3 hs o ho d;refine(λz_ k_=>k_ L h1 h2 h3 ?_ o ho d)
 cases q:Y' L with
 | none=>rfl
 | some o=>rw[<- k L o q,hs]
theorem Fly.frame{A:Around}{e:Value}{x:Str}{Y':Hp}{s:Shared}{h:Heap}{a:Addr}{o:AObj}(f:Fly g A e x s.heap Y' h)(r:u8 g s.heap a o):Fly g A e x s.heap (upd Y' a o) h:=f.sig λb n hb=>by
 refine c6 r.has λob ho=>?_
 rw[d8 _ _ (λq=>by rw[q,ho] at n;exact B5 n)];exact hb
theorem X3{A env s Y' s'}{a:Addr}{o:AObj}(I:Inv g F A env Z (upd Y a o) s)(I':Inv g F A env Z Y' s')(st:Step (inF A) f2 Y Y' s s')(ha:Y a=none):Inv g F A env Z (upd Y' a o) s'/\Y' a=none:=by
 refine c5 (I.sim.objs a o (d3 _ _ _)) λr hb=>?_
 obtain⟨h1,h2⟩:=ab2 r hb I'.sim st id ha (I.frs.not (.inr (by rw[d3];exact co _)))
 exact⟨I.keep (C4 st) h1,h2⟩
theorem Ev.frame{e:Expr}{a:Addr}{o:AObj}(h:Ev g F e Z Y Q X)(ha:Y a=none):Ev g F e Z (upd Y a o) (λv Y2=>∃ Y',Y2=upd Y' a o/\Y' a=none/\Q v Y') (λv Y2=>∃ Y',Y2=upd Y' a o/\Y' a=none/\X v Y'):=(λA env s I=>by
 have I₀:=I.sub (Sub.upd (o:=o) ha);refine pgo (h A env s I₀) (λv s' V Y' r I' st q=>?_) λv s' p0=>?_
 ·refine c5 (X3 I I' st ha) λJ hn=>?_
  exact(λz_ k_=>k_ V _ r J (C4 st) ⟨Y',rfl,hn,q⟩)
 ·refine p0 _ ?_;clear p0;rintro V Y' r I' st q
  refine c5 (X3 I I' st ha) λJ hn=>?_
  exact(λz_ k_=>k_ V _ (r.frame (I.sim.objs a o (d3 _ _ _)).1) J (C4 st) ⟨Y',rfl,hn,q⟩))
theorem Evs.mono{es:List Expr}{Q Q':List V->Hp->Prop}(h:Evs g F es Z Y Q X)(k:∀ v Y,Q v Y->Q' v Y):Evs g F es Z Y Q' X:=(λA env s pos I=>
 ⟨K7 (h A env s pos I).1 (λz_ z_ V Y' r i y q=>(λz_ k_=>k_ V Y' r i y (k _ _ q))) λz_ z_ p=>p,(h A env s pos I).2⟩)
theorem Evs.xmono{es:List Expr}{Q:List V->Hp->Prop}{X':Str->Hp->Prop}(h:Evs g F es Z Y Q X)(k:∀ v Y,X v Y->X' v Y):Evs g F es Z Y Q X':=(λA env s pos I=>
 ⟨wpAny_mono (h A env s pos I).1 (λz_ z_ p=>p) (λz_ z_ p=>by refine p _ ?_;clear p;rintro V Y' r i y q;exact(λz_ k_=>k_ V Y' r i y (k _ _ q))),(h A env s pos I).2⟩)
theorem bF8{es:List Expr}{idx:Expr}{p pos:Pos}(h:Evs g F es Z Y (λvs zs=>vs.length<=sizeLine/\Ev g F idx Z zs (λk Y2=>∃ n x,k=.int n/\0<=n/\n<2 ^ 63/\vs[n.toNat]?=some x/\Q x Y2) X) X)
  (hs:∀ o i,subscripted idx false o i=operate [o,i] (getItem o i)):Ev g F (.Subscript (.List es p) idx pos) Z Y Q X:=by
 refine Ev.drop (al8 (ab7 ((h.xmono λx Y h=>⟨Y,Sub.refl _,h⟩).mono λvs zs ⟨hl,hi⟩=>⟨hl,λa ha=>?_⟩)) hs)
 refine((Ev.frame hi ha).mono ?_).xmono ?_
 ·rintro k Y2 hh_;obtain⟨Y',rfl,hn,n,x,rfl,h0,h1,hx,hq⟩:=hh_
  exact ad7 (d3 _ _ _) h0 h1 hx ⟨Y',Sub.upd hn,hq⟩
 ·rintro x Y2 hh_;refine i8 hh_ λY' q1_ hn hq=>?_;clear hh_;subst q1_
  exact⟨Y',Sub.upd hn,hq⟩
end
section
variable{g:G}{sc:Scope}{vs:List Str}{d:Nat}{F:Blk}{Z:List (Option V)}{Y:Hp}{Q:V->Hp->Prop}{QB:Bool->Hp->Prop}{X:Str->Hp->Prop}
noncomputable def j4(a:Int):Prop:=-(2 ^ 60)<=a/\a<=2 ^ 60
theorem ap2{a b:Int}(ha:j4 a)(hb:j4 b):Builtin.Range.small a b 1=true:=by
 unfold j4 at *;unfold Builtin.Range.small Builtin.Range.rangeSize Builtin.Range.rangeFitsLong;simp
 split
 ·refine⟨⟨⟨?_,?_⟩,?_⟩,?_⟩<;>lia
 ·refine⟨⟨⟨?_,?_⟩,?_⟩,?_⟩<;>lia
theorem aJ9(a b:Int):(Builtin.Range.rangeSize a b 1).toNat=(b-a).toNat:=by
 unfold Builtin.Range.rangeSize;simp
 split<;>lia
theorem bK5{a:Int}{n i:Nat}(h:i<n):(k8 a 1 n).drop i=.int (a+i)::(k8 a 1 n).drop (i+1):=by
 have hl:i<(k8 a 1 n).length:=by rw[N7];exact h
 rw[bN hl]
 congr 1
 simp[k8]
theorem az4{a:Int}{n i:Nat}{v:V}{l:List V}(h:v::l=(k8 a 1 n).drop i):i<n/\v=.int (a+i)/\l=(k8 a 1 n).drop (i+1):=by
 by_cases hi:i<n
 ·rw[bK5 hi] at h
  cases h;exact⟨hi,rfl,rfl⟩
 ·rw[List.drop_eq_nil_of_le (by rw[N7];lia)] at h;cases h
theorem ax5{a:Int}{n i:Nat}(hi:i<=n)(h:[]=(k8 a 1 n).drop i):i=n:=by
 have:=congrArg List.length h;simp[N7] at this;lia
theorem D3.mono{ifs:List Expr}{Q Q':Bool->Hp->Prop}(h:D3 g F ifs Z Y Q)(k:∀ v Y,Q v Y->Q' v Y):D3 g F ifs Z Y Q':=(λA env s E I=>
 wpAny_mono (h A env s E I) (λz_ z_ p=>p _ λY' i y q=>λz_ k_=>k_ Y' i y (k _ _ q)) λz_ z_ p=>p)
end
section
variable{g:G}{sc:Scope}{vs:List Str}{d:Nat}{q:Bool}{F:Blk}{Z:List (Option V)}{Y:Hp}{Q:V->Hp->Prop}{QB:Bool->Hp->Prop}{X:Str->Hp->Prop}
noncomputable def L6(P:Nat->V->Prop):Nat->List V->Prop
 | _,[]=>True
 | i,x::xs=>P i x/\L6 P (i+1) xs
theorem cc2{P:Nat->V->Prop}{i:Nat}:L6 P i []:=trivial
theorem bm6{P:Nat->V->Prop}{i:Nat}{x:V}{xs:List V}(h:P i x)(t:L6 P (i+1) xs):L6 P i (x::xs):=⟨h,t⟩
theorem ag8{k:Int}{n:Nat}(h0:0<=k)(h1:k<n):seqIndex? k n=some k.toNat:=by
 unfold seqIndex?;simp[Int.not_lt.mpr h0]
 lia
theorem aR5{l:List V}{k:Int}(h0:0<=k)(h1:k<l.length)(hz:k<2 ^ 63)(h:∀ x,l[k.toNat]?=some x->Q x Y):Itm g F (.tup l) (.int k) Z Y Q X:=by
 have hl:k.toNat<l.length:=by lia
 exact am9 (by lia) hz (ag8 h0 h1) (ae hl) (h _ (ae hl))
theorem aS9{a:Addr}{l:List V}{k:Int}(hY:Y a=some (.lst l))(h0:0<=k)(h1:k<l.length)(hz:k<2 ^ 63)(h:∀ x,l[k.toNat]?=some x->Q x Y):Itm g F (.ref a) (.int k) Z Y Q X:=by
 have hl:k.toNat<l.length:=by lia
 exact ad7 hY h0 hz (ae hl) (h _ (ae hl))
theorem I2{n:Nat}{j:Int}(h0:0<=j):clipAt n j=min j.toNat n:=by
 have:=clipAt_cast n j;rw[if_neg (Int.not_lt.mpr h0)] at this;rw[<- bL (clipAt n j),this];rcases Int.le_total j n with h | h
 ·rw[dQ h,cI h0,bB (eX.mpr h)]
 ·rw[Int.min_eq_right h,cI (aJ n),bL,cJ (Int.le_toNat h0 |>.mpr h)]
theorem aN1{α:Type}{l:List α}{j:Int}(h0:0<=j):slc none (some j) l=l.take j.toNat:=by
 show(l.drop 0).take (clipAt l.length j-0)=_;rw[List.drop_zero,Nat.sub_zero,I2 h0,<- List.take_eq_take_min]
theorem aO3{α:Type}{l:List α}{j:Int}(h0:0<=j):slc (some j) none l=l.drop j.toNat:=by
 show(l.drop (clipAt l.length j)).take (l.length-clipAt l.length j)=_;rw[I2 h0,dY (by rw[cg];exact aI _)]
 rcases Nat.le_total j.toNat l.length with h | h
 ·rw[bB h]
 ·rw[cJ h,dZ (aI _),dZ h]
theorem ad3{A env s Y' s'}{a:Addr}{o:AObj}{Z':List (Option V)}(I:Inv g F A env Z (upd Y a o) s)(I':Inv g F A env Z' Y' s')(st:Step (inF A) (i9 env) Y Y' s s')(ha:Y a=none):Inv g F A env Z' (upd Y' a o) s'/\Y' a=none:=by
 refine c5 (I.sim.objs a o (d3 _ _ _)) λr hb=>?_
 have hown:¬ i9 env a:=λq=>by have:=I.loc.free a q;rw[d3] at this;exact B5 this
 obtain⟨h1,h2⟩:=ab2 r hb I'.sim st hown ha (I.frs.not (.inr (by rw[d3];exact co _)))
 refine⟨⟨I'.scope,I'.fn,I'.glob,I'.bltn,I'.room,I'.units,I'.quiet,h1,⟨I'.loc.len,I'.loc.ns,λb hb'=>?_,I'.loc.live,I'.loc.apart,I'.loc.other⟩,I'.base,I'.nd,I.frs.step (C4 st)⟩,h2⟩
 rw[d8 _ _ (fun(e:b=a)=>hown (by rw[<- e];exact hb'))];exact I'.loc.free b hb'
theorem Exs.frame{ss:List Stmt}{QS:d6}{XS:j3}{a:Addr}{o:AObj}(h:Exs g F ss Z Y QS XS)(ha:Y a=none):Exs g F ss Z (upd Y a o) (λf Z' Y2=>∃ Y',Y2=upd Y' a o/\Y' a=none/\QS f Z' Y') (λf Z' Y2=>∃ Y',Y2=upd Y' a o/\Y' a=none/\XS f Z' Y'):=(λA env s I=>by
 have I₀:=I.sub (Sub.upd (o:=o) ha);refine wpAny_mono (h A env s I₀) (λv s' p0=>?_) λv s' p0=>?_
 ·refine p0 _ ?_;clear p0;rintro V Z' Y' r I' st q
  refine c5 (ad3 I I' st ha) λJ hn=>?_
  exact(λz_ k_=>k_ V Z' _ r J (C4 st) ⟨Y',rfl,hn,q⟩)
 ·refine p0 _ ?_;clear p0;rintro V Z' Y' r I' st q
  refine c5 (ad3 I I' st ha) λJ hn=>?_
  exact(λz_ k_=>k_ V Z' _ (r.frame (I.sim.objs a o (d3 _ _ _)).1) J (C4 st) ⟨Y',rfl,hn,q⟩))
theorem Asg.frame{t:Expr}{v:V}{P:List (Option V)->Prop}{a:Addr}{o:AObj}(h:Asg g F t v Z Y P)(ha:Y a=none):Asg g F t v Z (upd Y a o) P:=⟨λA env s x QU E I hh r k=>by
 refine h.run A env s x QU E (I.sub (Sub.upd (o:=o) ha)) hh r λs' Z' I' st p=>?_
 exact k s' Z' (ad3 I I' st ha).1 (C4 st) p,h.tgt⟩
theorem Asg.mono{t:Expr}{v:V}{P P':List (Option V)->Prop}(h:Asg g F t v Z Y P)(k:∀ Z,P Z->P' Z):Asg g F t v Z Y P':=⟨λA env s x QU E I hh r k'=>h.run A env s x QU E I hh r λs' Z' I' st p=>k' s' Z' I' st (k _ p),h.tgt⟩
theorem Exs.xmono{ss:List Stmt}{QS:d6}{XS XS':j3}(h:Exs g F ss Z Y QS XS)(k:∀ f Z Y,XS f Z Y->XS' f Z Y):Exs g F ss Z Y QS XS':=(λA env s I=>
 wpAny_mono (h A env s I) (λz_ z_ p=>p) λz_ z_ p_=>by refine p_ _ ?_;clear p_;rintro V Z' Y' r i y q;exact(λz_ k_=>k_ V Z' Y' r i y (k _ _ _ q)))
theorem Ex.xdrop{ss:Stmt}{Q:d6}{X:j3}(h:Ex g F ss Z Y (λv Z' Y'=>∃ Y'',Sub Y'' Y'/\Q v Z' Y'') (λv Z' Y'=>∃ Y'',Sub Y'' Y'/\X v Z' Y'')):Ex g F ss Z Y Q X:=(λA env s I=>
 wpAny_mono (h A env s I) (λz_ z_ p=>by refine p _ ?_;clear p;rintro V Z' Y' r i y ⟨Y'',k,q⟩;exact(λz_ k_=>k_ V Z' Y'' r (i.sub k) (y.sub k) q)) (λz_ z_ p=>by refine p _ ?_;clear p;rintro V Z' Y' r i y ⟨Y'',k,q⟩;exact(λz_ k_=>k_ V Z' Y'' (r.sub k) (i.sub k) (y.sub k) q)))
theorem c7.frame{f:Str}{as:List V}{a:Addr}{o:AObj}(h:c7 g d q f as Y Q X)(ha:Y a=none):c7 g d q f as (upd Y a o) (λv Y2=>∃ Y',Y2=upd Y' a o/\Y' a=none/\Q v Y') (λv Y2=>∃ Y',Y2=upd Y' a o/\Y' a=none/\X v Y'):=(λA s vs af h1 h2 h3 h4 h5 hf h6=>by
 have key:∀ {Y':Hp} {s':Shared},Sim g Y' s'.heap->Step (inF A) f2 Y Y' s s'->Sim g (upd Y' a o) s'.heap/\Y' a=none:=fun{Y' s'} sm st=>by
  refine c5 (h5.objs a o (d3 _ _ _)) λr hb=>?_
  refine ab2 r hb sm st id ha λq=>?_
  refine g7 q λl e hl he hq=>?_
  refine hf _ ?_;clear hf;rintro l' hl' all;rw[hl] at hl';replace hl':=i5 hl';subst hl';refine(all e he) _ ?_;rintro L-hL-hs - - -;rw[hq] at hL;replace hL:=i5 hL;subst hL;rw[d3] at hs;exact B5 hs
 refine codeAny_mono (h A s vs af h1 h2 h3 h4 (h5.sub (Sub.upd ha)) (hf.sub (Sub.upd ha)) h6) (λr s' p=>?_)
 cases r with
 | error v=>
  refine p _ ?_;intro V Y' x1 x2 x3 e;refine c5 (key x2 x3) λy1 y2=>?_
  exact λz_ k_=>k_ V _ (x1.frame (h5.objs a o (d3 _ _ _)).1) y1 (C4 x3) ⟨Y',rfl,y2,e⟩
 | ok f=>cases f with
  | ret v=>
   refine p _ ?_;intro V Y' x1 x2 x3 e;refine c5 (key x2 x3) λy1 y2=>?_
   exact λz_ k_=>k_ V _ x1 y1 (C4 x3) ⟨Y',rfl,y2,e⟩
  | _=>exact p.elim)
theorem c7.xmono{f:Str}{as:List V}{X':Str->Hp->Prop}(h:c7 g d q f as Y Q X)(k:∀ v Y,X v Y->X' v Y):c7 g d q f as Y Q X':=(λA s vs a h1 h2 h3 h4 h5 hf h6=>
 codeAny_mono (h A s vs a h1 h2 h3 h4 h5 hf h6) (λr s' p=>by
  cases r with
  | error e=>refine p _ ?_;intro V Y' a b c e';exact λz_ k_=>k_ V Y' a b c (k _ _ e')
  | ok f=>cases f with
   | ret v=>exact p
   | _=>exact p.elim))
theorem c7.under{f:Str}{as:List V}{a:Addr}{o:AObj}(h:c7 g d q f as Y Q noX)(ha:Y a=none):c7 g d q f as (upd Y a o) (λv Y2=>∃ Y',Y2=upd Y' a o/\Y' a=none/\Q v Y') X:=
 (h.frame ha).xmono λz_ z_ p=>by refine i8 p λz_ z_ z_ h=>?_;exact h.elim
end
noncomputable def F8(xs:Array Nat):Prop:=∀ i j:Nat,i<j->∀ x y,xs[i]?=some x->xs[j]?=some y->x<y
theorem aW9{xs:Array Nat}{j:Nat}(hr:F8 xs):∀ (fuel lo hi:Nat),hi-lo<=fuel->lo<=hi->hi<=xs.size->(∀ i x,i<lo->xs[i]?=some x->x<j)->(∀ i x,hi<=i->xs[i]?=some x->j<=x)->
  (∀ i x,i<SetTable.below.go xs j fuel lo hi->xs[i]?=some x->x<j)/\(∀ i x,SetTable.below.go xs j fuel lo hi<=i->xs[i]?=some x->j<=x)/\SetTable.below.go xs j fuel lo hi<=xs.size:=by
 intro fuel;induction fuel with
 | zero=>
  intro lo hi hf hle hsz h1 h2;obtain rfl:lo=hi:=cv hle (ee.mp (Nat.le_zero.mp hf));exact⟨h1,h2,hsz⟩
 | succ fuel ih=>
  intro lo hi hf hle hsz h1 h2;by_cases hlt:lo<hi
  ·rw[show SetTable.below.go xs j (fuel+1) lo hi=if xs.getD ((lo+hi) / 2) j<j then SetTable.below.go xs j fuel ((lo+hi) / 2+1) hi else SetTable.below.go xs j fuel lo ((lo+hi) / 2) from if_pos hlt]
   have hm1:lo<=(lo+hi) / 2:=(Nat.le_div_iff_mul_le (by decide)).mpr (by rw[Nat.mul_two];exact cr hle lo)
   have hm2:(lo+hi) / 2<hi:=Nat.div_lt_of_lt_mul (by rw[Nat.two_mul];exact Nat.add_lt_add_right hlt hi)
   generalize (lo+hi) / 2=m at hm1 hm2;have hm:=aY hm2 hsz;have hget:xs[m]?=some xs[m]:=aO hm;rw[show xs.getD m j=xs[m] from dif_pos hm]
   by_cases hc:xs[m]<j
   ·rw[if_pos hc]
    refine ih (m+1) hi (al (Nat.sub_le_sub_left (bG hm1) hi) (Nat.pred_le_pred hf)) hm2 hsz (λi x hi' hx=>?_) h2
    rcases dj (br hi') with rfl | he
    ·rw[hget] at hx;exact Option.some.inj hx▸hc
    ·exact bQ (hr i m he x _ hx hget) hc
   ·rw[if_neg hc]
    refine ih lo m (br (aY (Nat.sub_lt_sub_right hm1 hm2) hf)) hm1 (cB hm) h1 (λi x hi' hx=>?_)
    rcases dj hi' with rfl | he
    ·rw[hget] at hx;exact Option.some.inj hx▸bg hc
    ·exact al (bg hc) (cB (hr m i he _ x hget hx))
  ·rw[show SetTable.below.go xs j (fuel+1) lo hi=lo from if_neg hlt]
   obtain rfl:lo=hi:=cv hle (bg hlt);exact⟨h1,h2,hsz⟩
theorem ah6{xs:Array Nat}{j:Nat}(hr:F8 xs):(∀ i x,i<SetTable.below xs j->xs[i]?=some x->x<j)/\(∀ i x,SetTable.below xs j<=i->xs[i]?=some x->j<=x)/\SetTable.below xs j<=xs.size:=
 aW9 hr xs.size 0 xs.size (aI _) (ay _) (aI _) (λi x h z_=>absurd h (bW _)) (λi x h hx=>absurd (aX.mp hx).1 (cf.mpr h))
theorem aO4{α:Type}(xs:Array α)(p:Nat)(x:α):(SetTable.insertAt xs p x).toList=xs.toList.take p++x::xs.toList.drop p:=by
 unfold SetTable.insertAt;simp[dY]
theorem Ya1{xs:Array Nat}:F8 xs↔xs.toList.Pairwise (· < ·):=by
 constructor
 ·intro h
  rw[cw];intro i j hi hj hij;exact h i j hij _ _ (by rw[<- av];exact ae hi) (by rw[<- av];exact ae hj)
 ·intro h i j hij x y hx hy
  rw[<- av] at hx hy;obtain⟨hi,rfl⟩:=aj.mp hx;obtain⟨hj,rfl⟩:=aj.mp hy;exact cw.mp h i j hi hj hij
theorem bx2{xs:Array Nat}{j:Nat}(hr:F8 xs)(hn:xs[SetTable.below xs j]?≠some j):F8 (SetTable.insertAt xs (SetTable.below xs j) j):=by
 refine k6 (ah6 (j:=j) hr) λh1 h2 h3=>?_
 have h2':∀ i x,SetTable.below xs j<=i->xs[i]?=some x->j<x:=λi x hi hx=>by
  have q:=h2 i x hi hx;rcases Nat.lt_or_ge j x with q' | q'
  ·exact q'
  ·obtain rfl:x=j:=cv q' q
   rcases dj hi with e | e
   ·exact absurd (by rw[e];exact hx) hn
   ·have hb:SetTable.below xs x<xs.size:=bQ e (aX.mp hx).1
    exact absurd (hr _ _ e _ _ (aO hb) hx) (cf.mpr (h2 _ _ (aI _) (aO hb)))
 rw[Ya1,aO4];have hp:=Ya1.mp hr;refine eG.mpr ⟨hp.sublist (List.take_sublist _ _),List.pairwise_cons.mpr ⟨λy hy=>?_,hp.sublist (List.drop_sublist _ _)⟩,λa ha b hb=>?_⟩
 ·refine c6 (ca.mp hy) λi hi=>?_
  rw[List.getElem?_drop,av] at hi;exact h2' _ _ (dA _ _) hi
 ·refine c6 (ca.mp ha) λi hi=>?_
  have hlt:i<SetTable.below xs j:=by
   have:=(aj.mp hi).1;rw[bR] at this;exact aY this (aU _ _)
  rw[List.getElem?_take_of_lt hlt,av] at hi;have q1:=h1 _ _ hlt hi;rcases am.mp hb with rfl | hb
  ·exact q1
  ·refine c6 (ca.mp hb) λk hk=>?_
   rw[List.getElem?_drop,av] at hk;exact bQ q1 (h2' _ _ (dA _ _) hk)
theorem bk9{xs:Array Nat}(hr:F8 xs):SetTable.below xs 0=0:=by
 refine k6 (ah6 (j:=0) hr) λh1 h2 h3=>?_
 rcases Nat.eq_zero_or_pos (SetTable.below xs 0) with e | e
 ·exact e
 ·exact absurd (h1 0 _ e (aO (aY e h3))) (bW _)
theorem bb7{xs:Array Nat}{i x:Nat}(hr:F8 xs)(hx:xs[i]?=some x):SetTable.below xs (x+1)=i+1:=by
 refine k6 (ah6 (j:=x+1) hr) λh1 h2 h3=>?_
 have hi:=(aX.mp hx).1;rcases Nat.lt_trichotomy (SetTable.below xs (x+1)) (i+1) with q | q | q
 ·exact absurd (h2 i x (br q) hx) (Nat.not_succ_le_self _)
 ·exact q
 ·have hb:i+1<xs.size:=aY q h3
  exact absurd (hr i (i+1) (bp _) _ _ hx (aO hb)) (cf.mpr (br (h1 (i+1) _ q (aO hb))))
structure Tidy(t:SetTable)(led:Bool):Prop where
 rise:F8 t.place
 nod:t.dummies=#[]
 led:t.led=led
theorem ba2(led:Bool):Tidy (.fresh 0 0 led) led:=⟨λi j h x y hx=>by simp[SetTable.fresh] at hx,rfl,rfl⟩
theorem bM4(n:Nat):F8 (Array.range n):=by
 rw[Ya1];simp[ef]
theorem V4{t:SetTable}{led:Bool}(h:Tidy t led)(n:Nat):Tidy (t.standIn n) led:=⟨bM4 n,rfl,h.led⟩
theorem aT1{t:SetTable}{j:Nat}(h:t.dummies=#[]):t.slot j≠.dummy:=by
 unfold SetTable.slot;dsimp only
 split
 ·simp
 ·rw[if_neg]
  ·simp
  ·unfold SetTable.has;rw[h];simp
theorem bN8{t:SetTable}{hashAt:Nat->Int}{h:Int}(hn:t.dummies=#[])(fuel:Nat):∀ (p:SetTable.Probe),p.dummy=none->∀ j d,SetTable.probe.go t hashAt h fuel p=some (.empty j d)->t.slot j=.empty/\d=none:=by
 induction fuel with
 | zero=>intro p hp j d e;cases e
 | succ fuel ih=>
  intro p hp j d e
  replace e:(match t.slot p.j with | .empty=>some (SetTable.Met.empty p.j p.dummy) | .dummy=>SetTable.probe.go t hashAt h fuel (t.advance {p with dummy:=some p.j}) | .live i=>if hashAt i==h then some (.candidate p.j i (t.advance p)) else SetTable.probe.go t hashAt h fuel (t.advance p))=some (.empty j d):=e
  cases hs:t.slot p.j with
  | empty=>rw[hs] at e;cases e;exact⟨hs,hp⟩
  | dummy=>exact absurd hs (aT1 hn)
  | live i=>
   rw[hs] at e;by_cases hb:(hashAt i==h)=true
   ·exact absurd ((if_pos hb).symm.trans e) (λq=>by cases q)
   ·refine ih _ ?_ j d ((if_neg hb).symm.trans e)
    unfold SetTable.advance
    split
    ·exact hp
    ·exact hp
theorem bJ3{t:SetTable}{h:Int}{j:Nat}{b:Bool}(hn:t.dummies=#[])(e:t.freeSlot h=some (j,b)):t.slot j=.empty:=by
 unfold SetTable.freeSlot at e;cases hp:t.probe (λz_=>h+1) h (t.probeStart h) with
 | none=>rw[hp] at e;cases e
 | some m=>
  rw[hp] at e;cases m with
  | empty j' d=>
   refine c5 (bN8 hn _ _ rfl _ _ hp) λh1 h2=>?_
   subst h2;cases e;exact h1
  | candidate j' i' n'=>exact f9 e
theorem bk5{t:SetTable}{j:Nat}(h:t.slot j=.empty):t.place[SetTable.below t.place j]?≠some j:=λe=>by
 unfold SetTable.slot at h;dsimp only at h
 rw[if_pos (by rw[e];simp)] at h
 cases h
theorem cj2{t:SetTable}{led:Bool}{j:Nat}(ht:Tidy t led)(h:t.slot j=.empty):Tidy (t.put j).1 led:=by
 refine⟨bx2 ht.rise (bk5 h),?_,ht.led⟩;unfold SetTable.put;dsimp only
 rw[if_neg (by unfold SetTable.has;rw[ht.nod];simp)]
 exact ht.nod
set_option tactic.hygienic true in
theorem aY0{t:SetTable}{led:Bool}{es:Array (Int×Value)}{h:Int}{x:Value}(ht:Tidy t led):Tidy (layNew t es h x).2.1 led:=by
 unfold layNew
 split
 ·rename_i j b e
  have:=cj2 ht (bJ3 ht.nod e);unfold SetTable.orStandIn;dsimp only
  split
  ·exact this
  ·exact V4 this _
 ·exact V4 ht _
theorem bv4{x7 finger moves:Nat}{led plain:Bool}{hashes:Array Int}{t:SetTable}{order:Array Nat}(e:SetTable.laid x7 finger moves led plain hashes=some (t,order)):Tidy t led:=by
 unfold SetTable.laid at e;simp only[Option.bind_eq_bind,Option.bind_eq_some_iff,Option.pure_def,Option.some.injEq,Prod.mk.injEq] at e
 obtain⟨owner,_,rfl,_⟩:=e;refine⟨?_,rfl,rfl⟩;rw[Ya1];simp only[List.map_filterMap]
 show List.Pairwise _ ((List.range (x7+1)).filterMap _);refine List.Pairwise.filterMap _ ?_ ef;intro a b hab x hx y hy;simp only[Option.mem_def,Option.map_map,aA] at hx hy
 obtain⟨_,_,rfl⟩:=hx;obtain⟨_,_,rfl⟩:=hy;exact hab
set_option tactic.hygienic true in
theorem bQ8{t:SetTable}{led:Bool}{es:Array (Int×Value)}{n:Nat}(ht:Tidy t led):Tidy (relayAll t es n).2.1 led:=by
 unfold relayAll
 split
 ·rename_i t' order e
  unfold SetTable.relaid at e;have:=bv4 e;rw[ht.led] at this;dsimp only
  split
  ·exact this
  ·exact V4 ht _
 ·exact V4 ht _
section
variable{prog:Program}{w:World}{K:Type}[DecidableEq K](knd:PySem.KeyKind prog w K)
class inductive KA:List (Int×Value)->List K->Prop
 | nil:KA [] []
 | cons {e:Int×Value} {k:K} {es:List (Int×Value)} {ks:List K}:knd.is k e.2=true->e.1=knd.hash k->e.2.scannable=true->KA es ks->KA (e::es) (k::ks)
variable{knd}
theorem KA.length{es:List (Int×Value)}{ks:List K}(h:KA knd es ks):es.length=ks.length:=by
 induction h with
 | nil=>rfl
 | cons _ _ _ _ ih=>rw[az,az,ih]
theorem KA.elems{es:List (Int×Value)}{ks:List K}(h:KA knd es ks):ElemsOf knd es:=by
 induction h with
 | nil=>exact λe he=>nomatch he
 | cons h1 h2 h3 h ih=>
  intro e he;rcases am.mp he with rfl | he
  ·exact⟨⟨_,h1,h2⟩,h3⟩
  ·exact ih e he
theorem KA.append{es fs:List (Int×Value)}{ks ls:List K}(h:KA knd es ks)(h':KA knd fs ls):KA knd (es++fs) (ks++ls):=by
 induction h with
 | nil=>exact h'
 | cons h1 h2 h3 _ ih=>exact .cons h1 h2 h3 ih
theorem KA.perm{es es':List (Int×Value)}(p:es.Perm es'):∀ {ks:List K},KA knd es ks->∃ ks',KA knd es' ks'/\ks.Perm ks':=by
 induction p with
 | nil=>intro ks h;exact⟨ks,h,.refl _⟩
 | cons x p ih=>
  intro ks h;cases h with
  | cons h1 h2 h3 h=>
   refine a9 (ih h) λks' q r=>?_
   exact⟨_,.cons h1 h2 h3 q,r.cons _⟩
 | swap x y l=>
  intro ks h;cases h with
  | cons h1 h2 h3 h=>
   cases h with
   | cons g1 g2 g3 h=>exact⟨_,.cons g1 g2 g3 (.cons h1 h2 h3 h),.swap _ _ _⟩
 | trans p q ih1 ih2=>
  intro ks h;refine a9 (ih1 h) λk1 a b=>?_
  refine a9 (ih2 a) λk2 c e=>?_
  exact⟨k2,c,b.trans e⟩
theorem KA.find{es:List (Int×Value)}{ks:List K}{k:K}(h:KA knd es ks):List.findIdx? (λe=>knd.is k e.2) es=none↔k∉ks:=by
 induction h with
 | nil=>simp
 | @cons e k' _ _ h1 h2 h3 h ih=>
  have his:knd.is k e.2=decide (k=k'):=KeyKind.is_eq_decide h1 k;rw[dh,his];by_cases hk:k=k'
  ·subst hk;simp
  ·simp[hk];simpa using ih
variable(knd)
def r9(h:Heap)(a:Addr)(led:Bool)(ks:List K):Prop:=
 ∀ P_:Prop,(∀ (o:Obj) (es:Array (Int×Value)) (ep:Nat) (t:SetTable) (ks':List K) (ho:h.get? a=some o) (hex:o.ExactSet) (hd:o.data=.set es ep t) (ka:KA knd es.toList ks') (hp:ks'.Perm ks) (hn:ks.Nodup) (hb:ks.length<scanBound) (hf:t.fits es.size=true) (ht:Tidy t led),P_)->P_
variable{knd}{A:Around}{E:Value->Shared->Prop}{s:Shared}
noncomputable def s7(ks:List K)(k:K):List K:=if k∈ks then ks else ks++[k]
theorem r9.store{h:Heap}{a:Addr}{o:Obj}{es es':Array (Int×Value)}{ep:Nat}{t t':SetTable}{ks ks':List K}{led:Bool}(ho:h.get? a=some o)(hex:o.ExactSet)(hd:o.data=.set es ep t)
  (ka:KA knd es'.toList ks') (hp:ks'.Perm ks) (hn:ks.Nodup) (hb:ks.length<scanBound) (hf:t'.fits es'.size=true) (ht:Tidy t' led) :
  (h.update a (dv es' t')).get? a=some {o with data:=.set es' (ep+1) t'}/\r9 knd (h.update a (dv es' t')) a led ks:=by
 have e:(h.update a (dv es' t')).get? a=some {o with data:=.set es' (ep+1) t'}:=by
  have:=bo (dv es' t') ho (by rw[putSet_of es' t' hd];rfl)
  rw[putSet_of es' t' hd] at this;exact this
 exact⟨e,λz_ k_=>k_ _ es' _ t' ks' e hex rfl ka hp hn hb hf ht⟩
theorem r9.tail{g:Bool->Sem Unit}(hg:∀ (b:Bool) (sv:Shared) (Q':Unit->Shared->Prop),Q' () sv->wpAny (model prog w) A (g b) Q' E sv)
  {a:Addr} {o:Obj} {es es1:Array (Int×Value)} {ep:Nat} {t t2:SetTable} {ks ks':List K} {led:Bool} {wd:Bool} (ho:s.heap.get? a=some o) (hex:o.ExactSet) (hd:o.data=.set es ep t)
  (ka:KA knd es1.toList ks') (hp:ks'.Perm ks) (hn:ks.Nodup) (hb:ks.length<scanBound) (hf:t2.fits es1.size=true) (ht:Tidy t2 led) {R:Option Bool->Shared->Prop}
  (h:∀ h',Heap.SameBut a s.heap h'->r9 knd h' a led ks->R (some true) {s with heap:=h'}) :
  wpAny (model prog w) A (do
    storeSet a es1 t2
    if (!wd&&t2.tooFull)=true then do
      g (relayAll t2 es1 (SetTable.grown es1.size)).2.2
      storeSet a (relayAll t2 es1 (SetTable.grown es1.size)).1 (relayAll t2 es1 (SetTable.grown es1.size)).2.1
      pure (some true)
     else pure (some true)) R E s:=by
 have hsz1:es1.size=ks.length:=by rw[<- ao,ka.length,hp.length_eq]
 refine wpAny_bind (wpAny_storeSet_of ho hd ?_ (fits_of_scanBound (by rw[hsz1];exact hb)))
 refine c5 (r9.store ho hex hd ka hp hn hb hf ht) λho1 hS1=>?_
 have hsb1:=Heap.SameBut.update s.heap a (dv es1 t2)
 split
 ·have hpr:=relayAll_perm t2 es1 (SetTable.grown es1.size)
  have hfr:=relayAll_fits t2 es1 (SetTable.grown es1.size);have htr:=bQ8 (es:=es1) (n:=SetTable.grown es1.size) ht;refine a9 (ka.perm hpr.symm) λks2 ka2 hp2=>?_
  have hsz:(relayAll t2 es1 (SetTable.grown es1.size)).1.size=ks.length:=by rw[<- ao,hpr.length_eq,ao,hsz1]
  refine wpAny_bind (hg _ _ _ ?_);refine wpAny_bind (wpAny_storeSet_of ho1 rfl ?_ (fits_of_scanBound (by rw[hsz];exact hb)))
  refine c5 (r9.store ho1 hex rfl ka2 (hp2.symm.trans hp) hn hb hfr htr) λz_ hS2=>?_
  exact wpAny_pure (h _ (hsb1.trans (Heap.SameBut.update _ a _)) hS2)
 ·exact wpAny_pure (h _ hsb1 hS1)
theorem ch7{t:SetTable}{led:Bool}(h:Tidy t led):Tidy {t with plain:=false} led:=⟨h.rise,h.nod,h.led⟩
theorem r9.add{a:Addr}{ks:List K}{led:Bool}{k:K}{x:Value}{Q:Bool->Shared->Prop}(hkey:knd.is k x=true)(hsc:x.scannable=true)(hS:r9 knd s.heap a led ks)(hroom:ks.length+1<scanBound)
  (h:∀ b h',Heap.SameBut a s.heap h'->r9 knd h' a led (s7 ks k)->Q b {s with heap:=h'}):wpAny (model prog w) A (setAddHashed a x (knd.hash k)) Q E s:=by
 refine hS _ ?_;clear hS;rintro o es ep t ks' ho hex hd ka hp hn hb hf ht;have hsz:es.size=ks.length:=by rw[<- ao,ka.length,hp.length_eq]
 unfold setAddHashed setAddHashedIn;refine wpAny_holding (wpAny_bind (wpAny_setState_of ho hd hf ?_));dsimp only
 rw[byScan_of hsc (by rw[hsz];exact hb) ka.elems]
 simp only[↓reduceIte]
 unfold setAddByScan;refine wpAny_bind (wpAny_bind (wpAny_rule (wpAny_bind (wpAny_setScan_of hkey ho hd hf ka.elems ?_))));cases hr:List.findIdx? (λe=>knd.is k e.2) es.toList with
 | some j=>
  dsimp only
  have hk:k∈ks:=by
   refine ba λq=>?_
   have:k∉ks':=λq'=>q (hp.mem_iff.mp q')
   rw[ka.find.mpr this] at hr;exact f9 hr
  refine wpAny_pure (wpAny_pure ?_);have:=h false s.heap (Heap.SameBut.refl a s.heap) (by unfold s7;rw[if_pos hk];exact(λz_ k_=>k_ o es ep t ks' ho hex hd ka hp hn hb hf ht))
  exact this
 | none=>
  dsimp only
  have hk:k∉ks:=λq=>ka.find.mp hr (hp.mem_iff.mpr q)
  have hgw:∀ (b:Bool) {sv:Shared} {Q':Unit->Shared->Prop},Q' () sv->wpAny (model prog w) A (match b with | true=>rule "set.scan.the-table-gave-way" | false=>pure ()) Q' E sv:=
   λb sv Q' hq=>by cases b<;>first | exact wpAny_pure hq | exact wpAny_rule hq
  have hperm:=layNew_perm t es (knd.hash k) x;have hfits:=layNew_fits t es (knd.hash k) x;have htl:=aY0 (es:=es) (h:=knd.hash k) (x:=x) ht;generalize hL:layNew t es (knd.hash k) x=L at hperm hfits htl ⊢;obtain⟨es1,t1,wd,gave⟩:=L;dsimp only at hperm hfits htl ⊢
  rw[cF] at hperm;refine a9 ((ka.append (.cons hkey rfl hsc .nil)).perm hperm.symm) λks1 ka1 hp1=>?_
  have hp':ks1.Perm (s7 ks k):=by unfold s7;rw[if_neg hk];exact hp1.symm.trans (hp.append_right _)
  have hn':(s7 ks k).Nodup:=by
   unfold s7;rw[if_neg hk];exact aV.mpr ⟨hn,by simp,λa ha b hb=>by simp at hb;subst hb;exact λe=>hk (e▸ha)⟩
  have hb':(s7 ks k).length<scanBound:=by unfold s7;rw[if_neg hk,ar];simpa using hroom
  have hend:∀ h',Heap.SameBut a s.heap h'->r9 knd h' a led (s7 ks k)->Q true {s with heap:=h'}:=λh'=>h true h'
  refine wpAny_bind (hgw _ ?_)
  split
  ·refine wpAny_bind ?_
   rw[hashByValue_scannable 8 hsc];refine wpAny_pure ?_;refine r9.tail (led:=led) ?_ ho hex hd ka1 hp' hn' hb' ?_ ?_ ?_
   ·intro b sv Q' hq;cases b<;>first | exact wpAny_pure hq | exact wpAny_rule hq
   ·split
    ·exact hfits
    ·exact SetTable.fits_plain_off hfits
   ·split
    ·exact htl
    ·exact ch7 htl
   ·intro h' hsb hS';dsimp only;exact wpAny_pure (hend h' hsb hS')
  ·refine wpAny_bind (wpAny_pure ?_)
   simp only[↓reduceIte]
   refine r9.tail ?_ ho hex hd ka1 hp' hn' hb' hfits htl ?_
   ·intro b sv Q' hq;cases b<;>first | exact wpAny_pure hq | exact wpAny_rule hq
   ·intro h' hsb hS';dsimp only;exact wpAny_pure (hend h' hsb hS')
end
end Internal
set_option maxHeartbeats 4000000
set_option maxRecDepth 100000
namespace Internal
section
variable{prog:Program}{w:World}{K:Type}[DecidableEq K]{knd:PySem.KeyKind prog w K}{A:Around}{E:Value->Shared->Prop}{s:Shared}
noncomputable def u9(w:World):Bool:=!w.params.followText "set-order"
noncomputable def Z2(knd:PySem.KeyKind prog w K)(v:Value)(k:K):Prop:=knd.is k v=true/\v.scannable=true
theorem aD3(ks:List K)(k:K):(s7 ks k).length<=ks.length+1:=by
 unfold s7;split<;>simp
theorem au6:∀ (l ks:List K),(l.foldl s7 ks).length<=ks.length+l.length
 | [],ks=>by simp
 | k::l,ks=>by
  have:=au6 l (s7 ks k);have:=aD3 ks k;simp only[bk,az];lia
theorem r9.keep{h h':Heap}{a:Addr}{led:Bool}{ks:List K}(x:r9 knd h a led ks)(k:∀ o,h.get? a=some o->h'.get? a=some o):r9 knd h' a led ks:=by
 refine x _ ?_;clear x;rintro o es ep t ks' ho r1 r2 r3 r4 r5 r6 r7 r8;exact(λz_ k_=>k_ o es ep t ks' (k o ho) r1 r2 r3 r4 r5 r6 r7 r8)
theorem bT8{R:Result->Shared->Prop}{I:Addr}{fp wr:List Addr}{G:Array GenState->Array GenState->Prop}{n:Nat}{P:Nat->Value->Prop}{St:Nat->Shared->Prop}(W:WalksS prog w A.in1 I fp wr G n P St)(S:Addr)(hSf:S∉fp){led:Bool}
  (val:Nat->K) (hval:∀ i v,P i v->Z2 knd v (val i)) (hb:n+1<scanBound) :
  ∀ (k i:Nat) (s:Shared) (ks:List K),n-i=k->i<=n->ks.length<=i->St i s->r9 knd s.heap S led ks->
   (∀ s',Moved (S::wr) G s s'->r9 knd s'.heap S led (((da i k).map val).foldl s7 ks)->R (.ok (.ret .none)) s')->
   codeAny (model prog w) A (.builtin "set.update.loop" ⟨[.ref S,.ref I],[]⟩) R s:=by
 have hSw:S∉wr:=λh=>hSf (W.sub _ h)
 have hsub:∀ b∈wr,b∈S::wr:=λb hb=>aG _ hb
 intro k;induction k with
 | zero=>
  intro i s ks hk hi hlen hst hS hR;have hin:i=n:=by lia
  subst hin;refine codeAny_builtin PyProof.Rows.F.entry_set_update_loop ?_;rw[Around.under_plainId PyProof.Rows.F.plain_set_update_loop _];show wpAny _ A.in1 (pyNext (.ref I) >>= _) _ _ s;refine wpAny_bind (W.done s _ _ hst λs' hm=>?_)
  show wpAny _ A.in1 (ret Value.none) _ _ s';exact wpAny_pure (hR s' (hm.mono hsub) (hS.keep λo ho=>hm.heap S _ hSw ho))
 | succ k ih=>
  intro i s ks hk hi hlen hst hS hR;have hlt:i<n:=by lia
  refine codeAny_builtin PyProof.Rows.F.entry_set_update_loop ?_;rw[Around.under_plainId PyProof.Rows.F.plain_set_update_loop _];show wpAny _ A.in1 (pyNext (.ref I) >>= _) _ _ s;refine wpAny_bind (W.item i s _ _ hlt hst λv s' hP hst' hm=>?_)
  refine c5 (hval i v hP) λhkey hsc=>?_
  have hS':r9 knd s'.heap S led ks:=hS.keep λo ho=>hm.heap S _ hSw ho
  show wpAny _ A.in1 (holding [v] (setAdd S v) >>= _) _ _ s';refine wpAny_bind (wpAny_holding ?_);unfold setAdd;refine wpAny_holding (wpAny_bind (knd.pyHash (k:=val i) hkey ?_));refine r9.add (s:={s' with toks:=s'.toks+1}) hkey hsc hS' (by lia) λb h' hsb hS2=>?_
  refine wpAny_pure ⟨plainId_quiet PyProof.Rows.F.plain_set_update_loop _,ih (i+1) _ (s7 ks (val i)) (by lia) hlt (by have:=aD3 ks (val i);lia) (W.frame _ s' _ _ hst' (db _) λb hb o e=>?_) hS2 λs'' hm'' hS''=>?_⟩
  ·rw[hsb.2 b (λh:b=S=>hSf (by rw[<- h];exact hb))];exact e
  ·refine hR s'' (Moved.trans W.gtrans ((hm.mono hsub).then_heap (db _) λb o hb e=>?_) hm'') (by
    rw[List.range'_succ];exact hS'')
   rw[hsb.2 b (λh:b=S=>hb (by rw[h];exact be))];exact e
theorem cg4(a:Value){Q₁:Value->Shared->Prop}
  (h:Q₁ (.ref s.heap.objs.size) {s with heap:=s.heap.push {cls:=.type "set",dict:=none,data:=.set #[] 0 (.fresh 0 0 (u9 w))}}) :
  codeAny (model prog w) A (.call (.builtin "set.__new__") ⟨[.type "set",a],[]⟩) (wants Q₁ E) s:=by
 refine codeAny_of_tree ?_;show wpAny _ A.in1 (do checkBuiltinCall "set.__new__" ⟨[.type "set",a],[]⟩;again (.builtin "set.__new__" ⟨[.type "set",a],[]⟩)) _ _ s
 refine wpAny_bind (wpAny_of_eq (F.newCall_set_1 a) (wpAny_pure ⟨plainId_quiet F.plain_set_new _,codeAny_builtin F.entry_set_new ?_⟩));rw[Around.under_plainId F.plain_set_new _];unfold Builtin.«set.__new__» Builtin.Frozenset.newClass;have hsub:=sub_set_self;obtain⟨hp,g,d,tk,os⟩:=s;dsimp only
 wp_walk
 refine wpAny_askSetting (wpAny_pure ?_);dsimp only
 simp only[newObj]
 refine wpAny_bind (wpAny_alloc (wpAny_pure ?_));exact wpAny_pure h
theorem bc8{h:Heap}{a:Addr}{led:Bool}(e:h.get? a=some {cls:=.type "set",dict:=none,data:=.set #[] 0 (.fresh 0 0 led)}):r9 knd h a led []:=
 (λz_ k_=>k_ _ (#[]) 0 _ [] e ⟨rfl,rfl,rfl⟩ rfl .nil (.refl _) .nil (by unfold scanBound;simp) rfl (ba2 led))
theorem aY2{S l:Addr}{items:Array Value}{val:Nat->K}{led:Bool}{QF:PySem.Fin->Shared->Prop}(hh:A.handled=none)(hS:s.heap.get? S=some {cls:=.type "set",dict:=none,data:=.set #[] 0 (.fresh 0 0 led)})(hl:s.heap.IsList l items)(hlS:l≠S)
  (hval:∀ (i:Nat) (v:Value),items[i]?=some v->Z2 knd v (val i)) (hb:items.size+1<scanBound)
  (h:∀ (h':Heap) (tk:Nat),r9 knd h' S led (((da 0 items.size).map val).foldl s7 [])->(∀ b o,b≠S->s.heap.get? b=some o->h'.get? b=some o)->QF (.done (.ret .none)) {s with heap:=h',toks:=tk}) :
  wpAny (model prog w) A (Builtin.«set.__init__» ⟨[.ref S,.ref l],[]⟩) QF E s:=by
 obtain⟨ol,hol,hcl,nl,hdl⟩:=id hl;obtain⟨ocls,odict,odata,oslots⟩:=ol;simp only at hcl hdl
 subst hcl;subst hdl;have hT:s.TypeIs (.ref S) "set":=⟨_,hS,rfl⟩;have hsls:=F.sub_list_set;have hslf:=F.sub_list_frozenset;have hne:(Value.type "list" == Value.type "dict")=false:=by decide
 unfold Builtin.«set.__init__» noKeywords Builtin.Frozenset.updateFrom;generalize hPI:pyIter=PI
 wp_walk
 subst hPI;refine wpAny_pyIter_list hl (wpAny_bind (wpAny_runValue ?_));have hlI:l≠s.heap.objs.size:=bb (aE hol);have hSI:S≠s.heap.objs.size:=bb (aE hS);have hh3:A.in1.handled=none:=hh;refine bT8 ((Walks.list hh3 _ l hlI items).toS) S (by simp only[am,ah,aC,or_false,not_or];exact⟨hSI,hlS.symm⟩) (led:=led) val hval hb (items.size-0) 0 _ [] (by lia) (ay _) (ay _)
  ⟨⟨_,an _ rfl,rfl,rfl⟩,(hl.push _)⟩ (bc8 (ag _ hS)) ?_
 intro s' hm hS';obtain⟨h',g',d',tk',os'⟩:=s';have eg:g'=s.gens:=hm.gens;have ed:d'=s.drawn:=hm.drawn;have eo:os'=s.os:=hm.os;subst eg;subst ed;subst eo;show wpAny _ _ _ _ _ _;refine wpAny_pure ?_;show wpAny _ _ (ret Value.none) _ _ _;refine wpAny_pure (h h' tk' hS' λb o hb e=>hm.heap b o (by simp only[am,ah,aC,or_false,not_or];exact⟨hb,bb (aE e)⟩) (ag _ e))
theorem aU3{l:Addr}{items:Array Value}{val:Nat->K}{Q:Value->Shared->Prop}
  (hh:A.handled=none) (hl:s.heap.IsList l items) (hval:∀ (i:Nat) (v:Value),items[i]?=some v->Z2 knd v (val i)) (hb:items.size+1<scanBound)
  (h:∀ (h':Heap) (tk:Nat),r9 knd h' s.heap.objs.size (u9 w) (((da 0 items.size).map val).foldl s7 [])->
   (∀ b o,b<s.heap.objs.size->s.heap.get? b=some o->h'.get? b=some o)->Q (.ref s.heap.objs.size) {s with heap:=h',toks:=tk}) :
  wpAny (model prog w) A (call (.type "set") [.ref l]) Q E s:=by
 refine p9 F.called_set.mro λc tl hmro=>?_
 have hmade:=F.called_set.made;have hsub:=F.called_set.sub;refine wpAny_call (codeAny_of_tree ?_);show wpAny _ _ (callAny (.type "set") _) _ _ _;refine wpAny_pure ⟨Code.quiet_builtin _ (by decide +kernel),codeAny_builtin F.entry_type_call ?_⟩
 rw[Around.under_plain (weight_type_call_type "set" [.ref l] []) rfl];have h1:=F.called_set.notType;have h2:=F.called_set.canCreate;have hct:=F.typeCall_set_1 (.ref l)
 repeat (any_goals (first | assumption | wp_step))
 refine codeAny_mono (cg4 (.ref l) (E:=E) (Q₁:=λobj sv=>obj=.ref s.heap.objs.size/\sv={s with heap:=s.heap.push {cls:=.type "set",dict:=none,data:=.set #[] 0 (.fresh 0 0 (u9 w))}}) ⟨rfl,rfl⟩) λr sv hr=>?_
 generalize hled:u9 w=led at hr h;cases r with
 | error e=>exact hr
 | ok fl=>
  cases fl with
  | ret obj=>
   refine c5 hr λq1_ q2_=>?_;try clear hr;subst q1_;subst q2_
   have hS:(s.heap.push {cls:=.type "set",dict:=none,data:=.set #[] 0 (.fresh 0 0 led)}).get? s.heap.objs.size=some {cls:=.type "set",dict:=none,data:=.set #[] 0 (.fresh 0 0 led)}:=an _ rfl;have hT:Shared.TypeIs {s with heap:=s.heap.push {cls:=.type "set",dict:=none,data:=.set #[] 0 (.fresh 0 0 led)}} (.ref s.heap.objs.size) "set":=⟨_,hS,rfl⟩
   have hli:=F.called_set.init.lookup;have hbi:=F.called_set.init.bind (.ref s.heap.objs.size)
   repeat (any_goals (first | assumption | wp_step))
   refine codeAny_mono (codeAny_call_builtin (R:=wants (λr s2=>r=.none/\∃ h' tk,s2={s with heap:=h',toks:=tk}/\
     r9 knd h' s.heap.objs.size led (((da 0 items.size).map val).foldl s7 [])/\
     (∀ b o,b<s.heap.objs.size->s.heap.get? b=some o->h'.get? b=some o)) E) F.called_set.init.plain F.entry_set_init (check_set_init_1 hT ?_)) λr2 s2 hr2=>?_
   ·exact aY2 (A:=A.in1.in1) hh hS (hl.push _) (bb (by refine a9 hl λz_ e z_=>?_;exact aE e)) hval hb λh' tk h1 h2=>⟨rfl,h',tk,rfl,h1,λb o hb e=>h2 b o (bb hb) (ag _ e)⟩
   ·cases r2 with
    | error e=>exact hr2
    | ok fl2=>
     cases fl2 with
     | ret r=>
      obtain⟨rfl,h',tk,rfl,hS',hk'⟩:=hr2
      repeat (any_goals (first | assumption | wp_step))
      exact h _ _ hS' hk'
     | _=>exact hr2.elim
  | _=>exact hr.elim
end
theorem E3:Slot "set_iterator" "__next__" "set_iterator.__next__":=
 .of (owner:="set_iterator") (n:="__next__") (by rw[typeLookup_type,builtinLookup_eq_fast];kernel_rfl) (by decide +kernel) (by decide +kernel) (by decide +kernel)
  (by first | exact .inl (by decide +kernel) | exact .inr (by decide +kernel)) (by rw[isSubtype_type];kernel_rfl)
theorem ag5:entryFor table "set_iterator.__next__" = some Builtin.«set_iterator.__next__»:=entryFor_of_tree (by kernel_rfl)
section
variable{M:Model}{A:Around}{E:Value->Shared->Prop}{s:Shared}
theorem bj0{src:Source}{n:Nat}{Q:Nat->Shared->Prop}(hn:n≠0)(h:∀ i dr,i<n->Q i {s with drawn:=dr}):wpAny M A (choose src n) Q E s:=λΓ p hΓ=>by
 exact⟨hn,h _ _ (Nat.mod_lt _ (Nat.pos_of_ne_zero hn))⟩
theorem ah1{α:Type}:∀ {l:List α} {i:Nat} (h:i<l.length),(l[i]::l.eraseIdx i).Perm l
 | x::xs,0,h=>.refl _
 | x::xs,i+1,h=>by
  simp only[List.getElem_cons_succ,List.eraseIdx_cons_succ]
  exact(List.Perm.swap _ _ _).trans ((ah1 (l:=xs) (i:=i) (by simpa using h)).cons x)
theorem bw7{α:Type}(n:Nat):∀ (xs:List α) {s:Shared} {Q:List α->Shared->Prop},xs.length=n->(∀ l dr,l.Perm xs->Q l {s with drawn:=dr})->wpAny M A (drawOrder n xs) Q E s:=by
 induction n with
 | zero=>
  intro xs s Q hl h;obtain rfl:=bf.mp hl;exact wpAny_pure (a:=[]) (h [] s.drawn (.refl _))
 | succ n ih=>
  intro xs s Q hl h;cases xs with
  | nil=>cases hl
  | cons x xs=>
   show wpAny M A (choose .order (x::xs).length >>= _) Q E s;refine wpAny_bind (bj0 (dB _) λi dr hi=>?_)
   rw[ae hi];refine wpAny_bind (ih ((x::xs).eraseIdx i) (s:={s with drawn:=dr}) (by rw[dm hi];exact Nat.succ.inj hl) λl dr' hp=>?_)
   exact wpAny_pure (h _ dr' ((hp.cons _).trans (ah1 hi)))
end
theorem cf5{α:Type}{next:Nat->Nat}(fuel:Nat):∀ (k:Nat) (left:List α) (out:Array α),left.length=fuel->(pickOrder.go next fuel k left out).toList.Perm (out.toList++left):=by
 induction fuel with
 | zero=>
  intro k left out h;obtain rfl:=bf.mp h;rw[aL];exact .refl _
 | succ fuel ih=>
  intro k left out h;have hi:next k%left.length<left.length:=Nat.mod_lt _ (by rw[h];exact Nat.succ_pos _)
  have e:pickOrder.go next (fuel+1) k left out=pickOrder.go next fuel (k+1) (left.eraseIdx (next k%left.length)) (out.push left[next k%left.length]):=by
   show(match left[next k%left.length]? with | some x=>pickOrder.go next fuel (k+1) (left.eraseIdx (next k%left.length)) (out.push x) | none=>out)=_
   rw[ae hi]
  rw[e];refine(ih (k+1) _ _ (by rw[dm hi,h];rfl)).trans ?_
  rw[cF,aF];exact List.Perm.append_left _ (ah1 hi)
theorem bm5{α:Type}(next:Nat->Nat)(xs:Array α):(pickOrder next xs).toList.Perm xs.toList:=by
 have:=cf5 (next:=next) xs.size 0 xs.toList #[] (by simp)
 simpa[pickOrder] using this
noncomputable def w5(fst:Value)(i:Nat)(a:Addr)(n ep:Nat):Obj:={cls:=.type "set_iterator",data:=.fields #[fst,rawInt i,.ref a,rawInt n,rawInt ep]}
theorem al2(a:Value):argsOk "set_iterator.__next__" ⟨[a],[]⟩:=by unfold argsOk;kernel_rfl
section
variable{prog:Program}{w:World}{A:Around}{E:Value->Shared->Prop}{s:Shared}
theorem ac1{I a:Addr}{o:Obj}{es:Array (Int×Value)}{ep i:Nat}{t:SetTable}{fst:Value}{QF:PySem.Fin->Shared->Prop}{E:Value->Shared->Prop}(hI:s.heap.get? I=some (w5 fst i a es.size ep))
  (ha:s.heap.get? a=some o) (hd:o.data=.set es ep t) (hf:t.fits es.size=true)
  (h:wpAny (model prog w) A (match fst with
   | .int slot _=>do
    match <- setNext a slot.toNat ((i:Int)).toNat ((ep:Int)).toNat with
    | some (x,next)=>
     setField (.ref I) 0 (rawInt next)
     setField (.ref I) 1 (rawInt ((i:Int)+1))
     ret x
    | none=>setField (.ref I) 2 .none;raiseNew (<- newExc (.type "StopIteration") [])
   | _=>do
    let some places <- seqItems? fst | unsupported "internal:set_iterator"
    match places[((i:Int)).toNat]? with
    | some (.int place _)=>
     let x <- setNextDrawn a place.toNat ((ep:Int)).toNat
     setField (.ref I) 1 (rawInt ((i:Int)+1))
     ret x
    | some _=>unsupported "internal:set_iterator"
    | none=>setField (.ref I) 0 (rawInt 0);setField (.ref I) 2 .none;raiseNew (<- newExc (.type "StopIteration") [])) QF E s) :
  wpAny (model prog w) A (Builtin.«set_iterator.__next__» ⟨[.ref I],[]⟩) QF E s:=by
 unfold Builtin.«set_iterator.__next__»;refine wpAny_bind (m:=slotArgs "__next__" 0 ⟨[.ref I],[]⟩) (wpAny_pure ?_);show wpAny _ _ (fieldsOf (.ref I) >>= _) _ _ s;refine wpAny_bind (wpAny_fieldsOf hI rfl ?_);show wpAny _ _ (setEntries a >>= _) _ _ s;refine wpAny_bind (wpAny_setEntries_of ha hd hf ?_);dsimp only
 rw[if_neg (by simp)]
 exact h
theorem bs0{I a tp:Addr}{o:Obj}{es:Array (Int×Value)}{ep i:Nat}{t:SetTable}{ps:List Nat}{x:Value}{h1:Int}{p:Nat}{Q:Option Value->Shared->Prop}(hI:s.heap.get? I=some (w5 (.ref tp) i a es.size ep))
  (ha:s.heap.get? a=some o) (hd:o.data=.set es ep t) (hf:t.fits es.size=true) (htp:s.heap.get? tp=some {cls:=.type "tuple",data:=.seq (ps.map fun(k:Nat)=>rawInt k).toArray})
  (hp:ps[i]?=some p) (hx:es[p]?=some (h1,x))
  (hQ:∀ h',h'.get? I=some (w5 (.ref tp) (i+1) a es.size ep)->Heap.SameBut I s.heap h'->Q (some x) {s with heap:=h'}):wpAny (model prog w) A (pyNext (.ref I)) Q E s:=by
 have hT:s.TypeIs (.ref I) "set_iterator":=⟨_,hI,rfl⟩;unfold pyNext;refine wpAny_bind (wpAny_attempt (wpAny_callSpecial?_slot (name:=Str.ofString "__next__") hT E3 (wpAny_call_entry E3 hT ag5 ?_ (al2 _))));refine ac1 hI ha hd hf ?_;have hps:((ps.map fun(k:Nat)=>rawInt k).toArray)[((i:Int)).toNat]?=some (rawInt p):=by
  simp[hp]
 show wpAny _ _ (seqItems? (.ref tp) >>= _) _ _ s;refine wpAny_bind (wpAny_seqItems htp rfl ?_);dsimp only
 rw[hps];show wpAny _ _ (setNextDrawn a ((p:Int)).toNat ((ep:Int)).toNat >>= _) _ _ s;unfold setNextDrawn;refine wpAny_bind (wpAny_bind (wpAny_setState_of ha hd hf ?_));dsimp only
 rw[if_neg (by simp)]
 rw[show((p:Int)).toNat=p by lia,hx]
 refine wpAny_pure ?_;refine wpAny_bind (wpAny_setField_rec hI (by simp) λh' hI' hs'=>?_)
 refine wpAny_pure ⟨_,rfl,?_⟩;exact wpAny_pure (hQ h' hI' hs')
theorem bz5(hh:A.handled=none){Q:PySem.Fin->Shared->Prop}(h:∀ (h':Heap) (e:Addr) (o:Obj),(∀ b ob,s.heap.get? b=some ob->h'.get? b=some ob)->h'.get? e=some o->o.cls=.type "StopIteration"->E (.ref e) {s with heap:=h'}) :
  wpAny (model prog w) A (do raiseNew (<- newExc (.type "StopIteration") [])) Q E s:=by
 show wpAny _ _ (newExc (.type "StopIteration") [] >>= _) _ _ _;refine wpAny_bind ?_;simp only[newExc,newTuple]
 refine wpAny_bind (wpAny_newObj_type ?_ (by size_fits))
 refine wpAny_bind (m:=firstArgMember _ _) (wpAny_of_eq (a:=Value.none) (by first | rfl | (simp only[firstArgMember];rfl)) ?_)
 refine wpAny_newObj_type ?_ (by size_fits)
 unfold raiseNew;refine wpAny_bind (wpAny_handled ?_);rw[hh];refine wpAny_bind (wpAny_pure (wpAny_throw ?_));exact h _ _ _ (λb o e=>ag _ (ag _ e)) (an _ rfl) rfl
theorem ae5{I a:Addr}{o:Obj}{es:Array (Int×Value)}{ep i:Nat}{t:SetTable}{fst:Value}{Q:Option Value->Shared->Prop}(hh:A.handled=none)(hI:s.heap.get? I=some (w5 fst i a es.size ep))
  (ha:s.heap.get? a=some o) (hd:o.data=.set es ep t) (hf:t.fits es.size=true)
  (hfst:(∃ slot tk,fst=.int slot tk/\∀ (Q':Option (Value×Nat)->Shared->Prop) (E':Value->Shared->Prop),Q' none s->wpAny (model prog w) A.in1 (setNext a slot.toNat ((i:Int)).toNat ((ep:Int)).toNat) Q' E' s)∨
   (∃ tp ps,fst=.ref tp/\s.heap.get? tp=some {cls:=.type "tuple",data:=.seq ps}/\ps.size<=i))
  (hQ:∀ h',Heap.ExtBut I s.heap h'->Q none {s with heap:=h'}):wpAny (model prog w) A (pyNext (.ref I)) Q E s:=by
 have hT:s.TypeIs (.ref I) "set_iterator":=⟨_,hI,rfl⟩;unfold pyNext;refine wpAny_bind (wpAny_attempt (wpAny_callSpecial?_slot (name:=Str.ofString "__next__") hT E3 (wpAny_call_entry E3 hT ag5 ?_ (al2 _))));refine ac1 hI ha hd hf ?_;have fin:∀ {h1:Heap} {QF:PySem.Fin->Shared->Prop},Heap.SameBut I s.heap h1->wpAny (model prog w) A.in1 (do raiseNew (<- newExc (.type "StopIteration") [])) QF (λe s'=>wpAny (model prog w) A (do if (<- isInstance e (.type "StopIteration"))=true then pure none else throw e) Q E s') {s with heap:=h1}:=fun{h1 QF} hs=>by
  refine bz5 (by exact hh) λh' e ob hx he hc=>?_
  refine wpAny_bind (wpAny_isInstance (T:="StopIteration") (b:=true) ⟨_,he,hc⟩ isSubtype_stop ?_);exact wpAny_pure (hQ h' λb o' hb e'=>hx b o' ((hs.2 b hb).trans e'))
 rcases hfst with ⟨slot,tk,rfl,hn⟩ | ⟨tp,ps,rfl,htp,hps⟩
 ·refine wpAny_bind (hn _ _ ?_)
  dsimp only
  refine wpAny_bind (wpAny_setField_rec hI (by simp) λh' hI' hs'=>?_)
  exact fin hs'
 ·show wpAny _ _ (seqItems? (.ref tp) >>= _) _ _ s
  refine wpAny_bind (wpAny_seqItems htp rfl ?_);dsimp only
  rw[show ps[((i:Int)).toNat]?=none by simp;omega]
  dsimp only
  refine wpAny_bind (wpAny_setField_rec hI (by simp) λh' hI' hs'=>?_)
  refine wpAny_bind (wpAny_setField_rec (s:={s with heap:=h'}) hI' (by simp) λh'' hI'' hs''=>?_)
  exact fin (hs'.trans hs'')
end
theorem bP9:entryFor table "set.__iter__" = some Builtin.«frozenset.__iter__»:=
 entryFor_alias (id':="frozenset.__iter__") (by kernel_rfl) rfl (by decide +kernel) (by kernel_rfl)
section
variable{prog:Program}{w:World}{A:Around}{E:Value->Shared->Prop}{s:Shared}
theorem X9{Q:Bool->Shared->Prop}(h:Q (!u9 w) s):wpAny (model prog w) A setsByText Q E s:=by
 unfold setsByText;refine wpAny_bind (wpAny_askSetting (wpAny_pure ?_));unfold u9 at h;rw[Bool.not_not] at h;exact h
theorem aJ4{a:Addr}{o:Obj}{es:Array (Int×Value)}{ep i slot:Nat}{t:SetTable}{Q:Option (Value×Nat)->Shared->Prop}(hw:u9 w=false)(ha:s.heap.get? a=some o)(hd:o.data=.set es ep t)(hf:t.fits es.size=true)
  (h:Q (((pickOrder (w.params.setOrder a ep) es)[i]?).map λe=>(e.2,slot)) s):wpAny (model prog w) A (setNext a slot i ep) Q E s:=by
 unfold setNext;refine wpAny_bind (wpAny_setState_of ha hd hf ?_);dsimp only
 refine wpAny_bind (X9 ?_);rw[hw];rw[Bool.not_false,if_pos rfl];rw[if_neg (by simp)]
 refine wpAny_bind ?_;unfold setWalk;refine wpAny_bind (wpAny_setState_of ha hd hf ?_);dsimp only
 refine wpAny_bind (X9 ?_);rw[hw];rw[Bool.not_false,if_pos rfl];refine wpAny_bind (wpAny_askSetting (wpAny_pure (wpAny_pure h)))
theorem aq6{a:Addr}{o:Obj}{es:Array (Int×Value)}{ep i slot:Nat}{t:SetTable}{Q:Option (Value×Nat)->Shared->Prop}(hw:u9 w=true)(ha:s.heap.get? a=some o)(hd:o.data=.set es ep t)(hf:t.fits es.size=true)
  (ht:Tidy t true) (hdr:(!t.plain&&decide (es.size > 1))=false) (hi:SetTable.below t.place slot=i)
  (h1:∀ x j h0,es[i]?=some (h0,x)->t.place[i]?=some j->Q (some (x,j+1)) s) (h2:es.size<=i->Q none s):wpAny (model prog w) A (setNext a slot i ep) Q E s:=by
 unfold setNext;refine wpAny_bind (wpAny_setState_of ha hd hf ?_);dsimp only
 refine wpAny_bind (X9 ?_);rw[hw];rw[Bool.not_true,if_neg ac];show wpAny _ _ (if (!t.plain&&decide (es.size > 1))=true then _ else _) _ _ s
 rw[if_neg (by rw[hdr];simp)]
 show wpAny _ _ ((if (!t.led && !es.isEmpty)=true then unsupported "set:maker-not-led" else pure ()) >>= _) _ _ s
 rw[if_neg (by rw[ht.led];simp)]
 refine wpAny_bind (wpAny_pure (wpAny_pure ?_));have hsz:t.place.size=es.size:=by
  unfold SetTable.fits at hf;simp only[aQ,beq_iff_eq] at hf
  exact hf.1
 rw[hi];by_cases hlt:i<es.size
 ·have e1:es[i]?=some (es[i].1,es[i].2):=aO hlt
  have e2:t.place[i]?=some t.place[i]:=aO (by lia)
  rw[e1,e2];exact h1 _ _ _ e1 e2
 ·rw[show es[i]?=none by simp;lia]
  exact h2 (by lia)
theorem aE8{I a:Addr}{o:Obj}{es:Array (Int×Value)}{ep i slot:Nat}{t:SetTable}{x:Value}{nx:Nat}{Q:Option Value->Shared->Prop}(hI:s.heap.get? I=some (w5 (rawInt slot) i a es.size ep))
  (ha:s.heap.get? a=some o) (hd:o.data=.set es ep t) (hf:t.fits es.size=true)
  (hn:∀ (Q':Option (Value×Nat)->Shared->Prop) (E':Value->Shared->Prop),Q' (some (x,nx)) s->wpAny (model prog w) A.in1 (setNext a slot i ep) Q' E' s)
  (hQ:∀ h',h'.get? I=some (w5 (rawInt nx) (i+1) a es.size ep)->Heap.SameBut I s.heap h'->Q (some x) {s with heap:=h'}):wpAny (model prog w) A (pyNext (.ref I)) Q E s:=by
 have hT:s.TypeIs (.ref I) "set_iterator":=⟨_,hI,rfl⟩;unfold pyNext;refine wpAny_bind (wpAny_attempt (wpAny_callSpecial?_slot (name:=Str.ofString "__next__") hT E3 (wpAny_call_entry E3 hT ag5 ?_ (al2 _))));refine ac1 hI ha hd hf ?_;show wpAny _ _ (setNext a ((slot:Int)).toNat ((i:Int)).toNat ((ep:Int)).toNat >>= _) _ _ s;rw[show((slot:Int)).toNat=slot by lia,show((i:Int)).toNat=i by lia,show((ep:Int)).toNat=ep by lia]
 refine wpAny_bind (hn _ _ ?_);dsimp only
 refine wpAny_bind (wpAny_setField_rec hI (by simp) λh' hI' hs'=>?_)
 refine wpAny_bind (wpAny_setField_rec (s:={s with heap:=h'}) hI' (by simp) λh'' hI'' hs''=>?_)
 refine wpAny_pure ⟨_,rfl,?_⟩;exact wpAny_pure (hQ h'' hI'' (hs'.trans hs''))
end
theorem aI4:Slot "set_iterator" "__iter__" "set_iterator.__iter__":=
 .of (owner:="set_iterator") (n:="__iter__") (by rw[typeLookup_type,builtinLookup_eq_fast];kernel_rfl) (by decide +kernel) (by decide +kernel) (by decide +kernel)
  (by first | exact .inl (by decide +kernel) | exact .inr (by decide +kernel)) (by rw[isSubtype_type];kernel_rfl)
theorem by1:entryFor table "set_iterator.__iter__" = some Builtin.«dict_keyiterator.__iter__»:=
 entryFor_alias (id':="dict_keyiterator.__iter__") (by kernel_rfl) rfl (by decide +kernel) (by kernel_rfl)
theorem cf8(a:Value):argsOk "set_iterator.__iter__" ⟨[a],[]⟩:=by unfold argsOk;kernel_rfl
section
variable{prog:Program}{w:World}{A:Around}{E:Value->Shared->Prop}{s:Shared}
theorem aP4{I:Addr}{o:Obj}{Q:Value->Shared->Prop}(hI:s.heap.get? I=some o)(hc:o.cls=.type "set_iterator")(h:Q (.ref I) s):wpAny (model prog w) A (pyIter (.ref I)) Q E s:=by
 have hT:s.TypeIs (.ref I) "set_iterator":=⟨_,hI,hc⟩;refine wpAny_pyIter_slot hT aI4 (wpAny_call_entry aI4 hT by1 ?_ (cf8 _));show wpAny _ _ (ret (.ref I)) _ _ s;exact wpAny_pure ⟨_,rfl,"set_iterator",_,hT,E3.lookup,h⟩
noncomputable def R0:Array GenState->Array GenState->Prop:=λa b=>b=a
theorem ac2{I a:Addr}{o:Obj}{es:Array (Int×Value)}{ep:Nat}{t:SetTable}{L:List Value}(X:List (Addr×Obj))(C:Nat->Value->Prop)(hIa:I≠a)(hX:∀ p∈X,p.1≠I)
  (item:∀ (i:Nat) (s:Shared) (fst:Value) (x:Value) (Q:Option Value->Shared->Prop) (E:Value->Shared->Prop),L[i]?=some x->C i fst->s.heap.get? I=some (w5 fst i a es.size ep)->s.heap.get? a=some o->(∀ p∈X,s.heap.get? p.1=some p.2)->
   (∀ h' fst',C (i+1) fst'->h'.get? I=some (w5 fst' (i+1) a es.size ep)->Heap.SameBut I s.heap h'->Q (some x) {s with heap:=h'})->wpAny (model prog w) A (pyNext (.ref I)) Q E s)
  (done:∀ (s:Shared) (fst:Value) (Q:Option Value->Shared->Prop) (E:Value->Shared->Prop),C L.length fst->s.heap.get? I=some (w5 fst L.length a es.size ep)->s.heap.get? a=some o->(∀ p∈X,s.heap.get? p.1=some p.2)->
   (∀ h',Heap.ExtBut I s.heap h'->Q none {s with heap:=h'})->wpAny (model prog w) A (pyNext (.ref I)) Q E s) :
  WalksS prog w A I (I::a::X.map (·.1)) [I] R0 L.length (λi v=>L[i]?=some v) (λi s=>s.heap.get? a=some o/\(∀ p∈X,s.heap.get? p.1=some p.2)/\∃ fst,C i fst/\s.heap.get? I=some (w5 fst i a es.size ep)) where
 sub:=λb hb=>by simp at hb;simp[hb]
 grefl:=λz_=>rfl
 gtrans:=λz_ z_ z_ x y=>y.trans x
 frame:=λi s h' tk p0 z_ hk=>by obtain⟨h1,h2,fst,hc,h3⟩:=p0;exact⟨hk a (by simp) _ h1,λp hp=>hk p.1 (by simp;exact .inr (.inr ⟨_,hp⟩)) _ (h2 p hp),fst,hc,hk I (by simp) _ h3⟩
 item:=λi s Q E hi p0 hQ=>by
  obtain⟨h1,h2,fst,hc,h3⟩:=p0;refine item i s fst L[i] Q E (ae hi) hc h3 h1 h2 λh' fst' hc' h3' hs=>?_
  refine hQ _ _ (ae hi) ⟨(hs.2 a hIa.symm).trans h1,λp hp=>(hs.2 p.1 (hX p hp)).trans (h2 p hp),fst',hc',h3'⟩ ⟨λb ob hb e=>(hs.2 b (by simpa using hb)).trans e,rfl,rfl,rfl,aI _⟩
 done:=λs Q E p0 hQ=>by
  obtain⟨h1,h2,fst,hc,h3⟩:=p0;refine done s fst Q E hc h3 h1 h2 λh' hs=>?_
  exact hQ _ ⟨λb ob hb e=>hs b ob (by simpa using hb) e,rfl,rfl,rfl,aI _⟩
 self:=λi s Q E p0 hQ=>by obtain⟨h1,h2,fst,hc,h3⟩:=p0;exact aP4 h3 rfl hQ
theorem cc3{I a:Addr}{o:Obj}{es:Array (Int×Value)}{ep:Nat}{t:SetTable}(hh:A.handled=none)(hIa:I≠a)(hw:u9 w=false)(hd:o.data=.set es ep t)(hf:t.fits es.size=true) :
  WalksS prog w A I [I,a] [I] R0 ((pickOrder (w.params.setOrder a ep) es).toList.map (·.2)).length (λi v=>((pickOrder (w.params.setOrder a ep) es).toList.map (·.2))[i]?=some v)
   (λi s=>s.heap.get? a=some o/\(∀ p∈([]:List (Addr×Obj)),s.heap.get? p.1=some p.2)/\∃ fst,fst=rawInt (0:Nat)/\s.heap.get? I=some (w5 fst i a es.size ep)):=
 ac2 (L:=(pickOrder (w.params.setOrder a ep) es).toList.map (·.2)) (t:=t) [] (λz_ fst=>fst=rawInt (0:Nat)) hIa (by simp)
  (λi s fst x Q E hx hc h3 h1 z_ hQ=>by
   subst hc;rw[aq,av] at hx;refine aE8 (slot:=0) (nx:=0) h3 h1 hd hf (λQ' E' hq=>aJ4 hw h1 hd hf ?_) λh' h'' hs=>hQ h' _ rfl h'' hs
   cases hp:(pickOrder (w.params.setOrder a ep) es)[i]? with
   | none=>rw[hp] at hx;cases hx
   | some e=>rw[hp] at hx;simp at hx;subst hx;exact hq)
  (λs fst Q E hc h3 h1 z_ hQ=>by
   subst hc;refine ae5 hh h3 h1 hd hf (.inl ⟨_,_,rfl,λQ' E' hq=>?_⟩) hQ
   rw[show(((0:Nat):Int)).toNat=0 by rfl,show((ep:Int)).toNat=ep by lia]
   refine aJ4 hw h1 hd hf ?_;rw[show(pickOrder (w.params.setOrder a ep) es)[(((((pickOrder (w.params.setOrder a ep) es).toList.map (·.2)).length:Nat):Int)).toNat]?=none by simp]
   exact hq)
theorem bH9{I a:Addr}{o:Obj}{es:Array (Int×Value)}{ep:Nat}{t:SetTable}(hh:A.handled=none)(hIa:I≠a)(hw:u9 w=true)(ht:Tidy t true)(hdr:(!t.plain&&decide (es.size > 1))=false)(hd:o.data=.set es ep t)(hf:t.fits es.size=true) :
  WalksS prog w A I [I,a] [I] R0 (es.toList.map (·.2)).length (λi v=>(es.toList.map (·.2))[i]?=some v)
   (λi s=>s.heap.get? a=some o/\(∀ p∈([]:List (Addr×Obj)),s.heap.get? p.1=some p.2)/\∃ fst,(∃ slot:Nat,fst=rawInt slot/\SetTable.below t.place slot=i)/\s.heap.get? I=some (w5 fst i a es.size ep)):=
 ac2 (L:=es.toList.map (·.2)) (t:=t) [] (λi fst=>∃ slot:Nat,fst=rawInt slot/\SetTable.below t.place slot=i) hIa (by simp)
  (λi s fst x Q E hx hc h3 h1 z_ hQ=>by
   obtain⟨slot,rfl,hb⟩:=hc;rw[aq,av] at hx;have hsz:t.place.size=es.size:=by
    unfold SetTable.fits at hf;simp only[aQ,beq_iff_eq] at hf
    exact hf.1
   have hlt:i<es.size:=by
    cases hp:es[i]? with
    | none=>rw[hp] at hx;cases hx
    | some e=>exact(aX.mp hp).1
   have e2:t.place[i]?=some t.place[i]:=aO (by lia)
   refine aE8 (slot:=slot) (nx:=t.place[i]+1) h3 h1 hd hf (λQ' E' hq=>aq6 hw h1 hd hf ht hdr hb ?_ λq=>by lia) λh' h'' hs=>hQ h' _ ⟨_,rfl,bb7 ht.rise e2⟩ h'' hs
   intro y j h0 ey ej;rw[ey] at hx;simp at hx;subst hx;rw[e2] at ej;replace ej:=i5 ej;subst ej;exact hq)
  (λs fst Q E hc h3 h1 z_ hQ=>by
   obtain⟨slot,rfl,hb⟩:=hc;refine ae5 hh h3 h1 hd hf (.inl ⟨_,_,rfl,λQ' E' hq=>?_⟩) hQ
   rw[show((slot:Int)).toNat=slot by lia,show((ep:Int)).toNat=ep by lia]
   refine aq6 hw h1 hd hf ht hdr (by rw[hb];lia) (λy j h0 ey ej=>?_) λz_=>hq
   have:=(aX.mp ey).1;simp at this)
theorem bM9{I a tp:Addr}{o:Obj}{es:Array (Int×Value)}{ep:Nat}{t:SetTable}{ps:List Nat}{L:List Value}(hh:A.handled=none)(hIa:I≠a)(hItp:tp≠I)(hd:o.data=.set es ep t)(hf:t.fits es.size=true)(hL:L.length=ps.length)
  (hps:∀ (i:Nat) x,L[i]?=some x->∃ p h0,ps[i]?=some p/\es[p]?=some (h0,x)) :
  WalksS prog w A I [I,a,tp] [I] R0 L.length (λi v=>L[i]?=some v)
   (λi s=>s.heap.get? a=some o/\(∀ p∈[(tp,({cls:=.type "tuple",data:=.seq (ps.map fun(k:Nat)=>rawInt k).toArray}:Obj))],s.heap.get? p.1=some p.2)/\∃ fst,fst=.ref tp/\s.heap.get? I=some (w5 fst i a es.size ep)):=
 ac2 (L:=L) (t:=t) [(tp,{cls:=.type "tuple",data:=.seq (ps.map fun(k:Nat)=>rawInt k).toArray})] (λz_ fst=>fst=.ref tp) hIa (by simp[hItp])
  (λi s fst x Q E hx hc h3 h1 h2 hQ=>by
   subst hc;refine j6 (hps i x hx) λp h0 e1 e2=>?_
   exact bs0 h3 h1 hd hf (h2 _ be) e1 e2 λh' h'' hs=>hQ h' _ rfl h'' hs)
  (λs fst Q E hc h3 h1 h2 hQ=>by
   subst hc;exact ae5 hh h3 h1 hd hf (.inr ⟨tp,_,rfl,h2 _ be,by simp[hL]⟩) hQ)
theorem aT7{a:Addr}{o:Obj}{es:Array (Int×Value)}{ep:Nat}{t:SetTable}{Q:Value->Shared->Prop}(ha:s.heap.get? a=some o)(hc:o.cls=.type "set")(hd:o.data=.set es ep t)(hf:t.fits es.size=true)(ht:Tidy t (u9 w))(hz:es.size<=4096)
  (h:∀ (I:Addr) (fp:List Addr) (L:List Value) (St:Nat->Shared->Prop) (h':Heap) (dr:Drawn),(∀ A':Around,A'.handled=none->WalksS prog w A' I fp [I] R0 L.length (λi v=>L[i]?=some v) St)->St 0 {s with heap:=h',drawn:=dr}->
   (∀ b ob,s.heap.get? b=some ob->h'.get? b=some ob)->s.heap.get? I=none->L.Perm (es.toList.map (·.2))->(∀ b∈fp,b<h'.objs.size)->I∈fp->(∀ b∈fp,b=a∨s.heap.get? b=none)->Q (.ref I) {s with heap:=h',drawn:=dr}) :
  wpAny (model prog w) A (pyIter (.ref a)) Q E s:=by
 have hT:s.TypeIs (.ref a) "set":=⟨_,ha,hc⟩;have hlt:=aE ha;refine wpAny_pyIter_slot hT F.slot_set_iter (wpAny_call_entry F.slot_set_iter hT bP9 ?_ (F.args_set_iter_1 _));unfold Builtin.«frozenset.__iter__»;refine wpAny_bind (m:=Builtin.Frozenset.slot0 "__iter__" ⟨[.ref a],[]⟩) (wpAny_pure ?_);unfold Builtin.Frozenset.sizeOf;refine wpAny_bind (wpAny_bind (wpAny_setEntries_of ha hd hf (wpAny_pure ?_)));unfold setDrawn;refine wpAny_bind (wpAny_bind (wpAny_setState_of ha hd hf ?_));dsimp only
 refine wpAny_bind (X9 (wpAny_pure ?_));show wpAny _ _ (if (!!u9 w&&(!t.plain&&decide (es.size > 1)))=true then _ else _) _ _ s
 have hfresh:s.heap.get? s.heap.objs.size=none:=u6 _;have hna:s.heap.objs.size≠a:=λe=>by rw[e] at hfresh;rw[hfresh] at ha;exact f9 ha
 by_cases hdr:(!!u9 w&&(!t.plain&&decide (es.size > 1)))=true
 ·rw[if_pos hdr]
  refine wpAny_bind (bw7 es.size (List.range es.size) (by simp) λps dr hp=>?_)
  refine wpAny_bind ?_;unfold newTuple;refine wpAny_newObj_type ?_ (by show(ps.map fun(k:Nat)=>rawInt k).toArray.size<=sizeLine;rw[List.size_toArray,aa,hp.length_eq,aN];exact al hz (by decide))
  have ha1:(s.heap.push {cls:=.type "tuple",data:=.seq (ps.map fun(k:Nat)=>rawInt k).toArray}).get? a=some o:=ag _ ha
  refine wpAny_bind (wpAny_setEpoch_of (s:={s with heap:=s.heap.push {cls:=.type "tuple",data:=.seq (ps.map fun(k:Nat)=>rawInt k).toArray},drawn:=dr}) ha1 hd hf ?_)
  unfold newFields;refine wpAny_bind (wpAny_newObj_type ?_ (by size_fits))
  have htp:(s.heap.push {cls:=.type "tuple",data:=.seq (ps.map fun(k:Nat)=>rawInt k).toArray}).get? s.heap.objs.size=some {cls:=.type "tuple",data:=.seq (ps.map fun(k:Nat)=>rawInt k).toArray}:=an _ rfl
  have hsz1:(s.heap.push {cls:=.type "tuple",data:=.seq (ps.map fun(k:Nat)=>rawInt k).toArray}).objs.size=s.heap.objs.size+1:=by rw[bw]
  refine wpAny_pure ⟨_,rfl,"set_iterator",_,⟨_,an _ rfl,rfl⟩,E3.lookup,?_⟩;have hI1:s.heap.objs.size+1≠a:=cQ (bq hlt);have hfresh1:s.heap.get? (s.heap.objs.size+1)=none:=by
   cases q:s.heap.get? (s.heap.objs.size+1) with
   | none=>rfl
   | some ob=>exact absurd (aE q) (cf.mpr (db _))
  have hL:∀ p∈ps,p<es.size:=λp q=>by simpa using hp.mem_iff.mp q
  show Q (.ref (s.heap.push _).objs.size) _;rw[hsz1];refine h (s.heap.objs.size+1) [s.heap.objs.size+1,a,s.heap.objs.size] (ps.map λp=>((es[p]?).map (·.2)).getD .none) _ _ dr
   (λA' hh=>bM9 (o:=o) (t:=t) (ps:=ps) hh hI1 (bb (bp _)) hd hf (by simp) λi x hx=>?_) ⟨ag _ ha1,λp hp'=>?_,.ref s.heap.objs.size,rfl,?_⟩ (λb ob e=>ag _ (ag _ e)) hfresh1 ?_ ?_ (by simp) (λb hb=>by
    simp at hb
    rcases hb with rfl | rfl | rfl
    ·exact .inr hfresh1
    ·exact .inl rfl
    ·exact .inr hfresh)
  ·rw[aq] at hx
   cases hq:ps[i]? with
   | none=>rw[hq] at hx;cases hx
   | some p=>
    have hlt':=hL p (aD hq);rw[hq] at hx;have e1:es[p]?=some (es[p].1,es[p].2):=aO hlt';rw[Option.map_some,e1] at hx;simp at hx
    exact⟨p,es[p].1,rfl,by rw[e1,hx]⟩
  ·simp at hp';subst hp';exact ag _ htp
  ·rw[<- hsz1];exact an _ rfl
  ·refine(hp.map _).trans ?_
   rw[show(List.range es.size).map (λp=>((es[p]?).map (·.2)).getD Value.none)=es.toList.map (·.2) from ?_]
   refine List.ext_getElem (by simp) λi h1 h2=>?_
   simp at h1
   simp[h1]
  ·intro b hb
   rw[bw,hsz1];simp at hb
   rcases hb with rfl | rfl | rfl
   ·exact bp _
   ·exact bq (bq hlt)
   ·exact bq (bp _)
 ·rw[if_neg hdr]
  refine wpAny_bind (wpAny_pure ?_);refine wpAny_bind (wpAny_setEpoch_of ha hd hf ?_);unfold newFields;refine wpAny_bind (wpAny_newObj_type ?_ (by size_fits))
  refine wpAny_pure ⟨_,rfl,"set_iterator",_,⟨_,an _ rfl,rfl⟩,E3.lookup,?_⟩;have hIo:(s.heap.push (w5 (rawInt (0:Nat)) 0 a es.size ep)).get? s.heap.objs.size=some (w5 (rawInt (0:Nat)) 0 a es.size ep):=an _ rfl;cases hw:u9 w with
  | false=>
   refine h s.heap.objs.size [s.heap.objs.size,a] ((pickOrder (w.params.setOrder a ep) es).toList.map (·.2)) _ _ s.drawn (λA' hh=>cc3 (t:=t) hh hna hw hd hf) ⟨ag _ ha,by simp,rawInt (0:Nat),rfl,hIo⟩ (λb ob e=>ag _ e) hfresh ((bm5 _ _).map _) ?_ (by simp) (λb hb=>by
    simp at hb
    rcases hb with rfl | rfl
    ·exact .inr hfresh
    ·exact .inl rfl)
   intro b hb;rw[bw];simp at hb
   rcases hb with rfl | rfl
   ·exact bp _
   ·exact bq hlt
  | true=>
   rw[hw] at hdr ht;refine h s.heap.objs.size [s.heap.objs.size,a] (es.toList.map (·.2)) _ _ s.drawn (λA' hh=>bH9 (t:=t) hh hna hw ht (by simpa using hdr) hd hf) ⟨ag _ ha,by simp,rawInt (0:Nat),⟨0,rfl,bk9 ht.rise⟩,hIo⟩ (λb ob e=>ag _ e) hfresh (.refl _) ?_ (by simp) (λb hb=>by
    simp at hb
    rcases hb with rfl | rfl
    ·exact .inr hfresh
    ·exact .inl rfl)
   intro b hb;rw[bw];simp at hb
   rcases hb with rfl | rfl
   ·exact bp _
   ·exact bq hlt
theorem bd5{a:Addr}{Q:Bool->Shared->Prop}(hT:s.TypeIs (.ref a) "set")(h:Q false s):wpAny (model prog w) A (Builtin.List.listLengthHint (.ref a)) Q E s:=by
 unfold Builtin.List.listLengthHint;refine wpAny_bind (wpAny_specialOf hT F.slot_set_len.lookup ?_);have hs:splitId "set.__len__" = some ("set","__len__"):=by kernel_rfl
 dsimp only
 rw[hs];dsimp only
 refine wpAny_bind (wpAny_isInstance (T:="set") (b:=true) hT sub_set_self ?_);rw[if_neg (by decide)]
 rw[if_pos]
 ·refine wpAny_bind (wpAny_typeOf hT ?_)
  exact wpAny_pure h
 ·decide +kernel
set_option tactic.hygienic true in
theorem bL7{a:Addr}{o:Obj}{es:Array (Int×Value)}{ep:Nat}{t:SetTable}{Q:List Value->Shared->Prop}(hh:A.handled=none)(ha:s.heap.get? a=some o)(hc:o.cls=.type "set")(hd:o.data=.set es ep t)(hf:t.fits es.size=true)(ht:Tidy t (u9 w))(hz:es.size<=4096)
  (h:∀ (vs:List Value) (s':Shared),vs.Perm (es.toList.map (·.2))->(∀ b ob,s.heap.get? b=some ob->s'.heap.get? b=some ob)->s'.gens=s.gens->s'.os=s.os->Q vs s') :
  wpAny (model prog w) A (collect (.ref a)) Q E s:=by
 have hlt:=aE ha;unfold collect;refine wpAny_bind (wpAny_runValue (codeAny_builtin F.entry_proto_collect ?_));rw[Around.under_plainId F.plain_proto_collect _];show wpAny _ A.in1 (newList [] >>= λl=>again (.builtin "list.__iadd__" ⟨[l,.ref a],[]⟩)) _ _ s
 refine wpAny_bind (wpAny_newObj_type ?_);refine wpAny_pure ⟨plainId_quiet F.plain_list_iadd _,codeAny_builtin F.entry_list_iadd ?_⟩;rw[Around.under_plainId F.plain_list_iadd _];have ha1:(s.heap.push {cls:=.type "list",data:=.seq ([]:List Value).toArray}).get? a=some o:=ag _ ha;have hT:Shared.TypeIs {s with heap:=s.heap.push {cls:=.type "list",data:=.seq ([]:List Value).toArray}} (.ref a) "set":=⟨_,ha1,hc⟩
 show wpAny _ A.in1 (Builtin.List.listExtendWith (.ref s.heap.objs.size) (.ref a) (.ref s.heap.objs.size)) _ _ _;unfold Builtin.List.listExtendWith;refine wpAny_bind (wpAny_typeOf hT ?_);have h1:Builtin.List.listSameRef (.ref s.heap.objs.size) (.ref a)=false:=by
  simp[Builtin.List.listSameRef];exact cQ hlt
 have h2:(Value.type "set" == Value.type "list")=false:=by decide
 have h3:(Value.type "set" == Value.type "tuple")=false:=by decide
 rw[h1,h2,h3];rw[if_neg (by decide)]
 refine wpAny_bind (aT7 ha1 hc hd hf ht hz λI fp L St h' dr W hst hk hfr hp hfp hI hfa=>?_)
 refine wpAny_bind (wpAny_holding ?_);have haI:h'.get? a=some o:=hk _ _ ha1;have hS0:h'.get? s.heap.objs.size=some {cls:=.type "list",data:=.seq ([]:List Value).toArray}:=hk _ _ (an _ rfl);refine bd5 ⟨_,haI,hc⟩ ?_;dsimp only
 have hSf:s.heap.objs.size∉fp:=λq=>by
  rcases hfa _ q with e | e
  ·exact absurd e (cQ hlt)
  ·rw[an _ rfl] at e;exact B5 e
 split
 ·refine wpAny_bind (wpAny_rule ?_)
  refine wpAny_bind ?_;show wpAny _ A.in1 (updateSeq s.heap.objs.size (·.push .none) >>= λ_=>updateSeq s.heap.objs.size (·.pop)) _ _ _
  refine wpAny_bind (wpAny_updateSeq hS0 rfl ?_);have hS2:=bo (bj (·.push Value.none)) hS0 rfl
  refine wpAny_updateSeq (hz:=by seq_fits) hS2 rfl ?_
  have hS3:=bo (bj (·.pop)) hS2 rfl
  have oth:∀ b ob,b≠s.heap.objs.size->h'.get? b=some ob->((h'.update s.heap.objs.size (bj (·.push Value.none))).update s.heap.objs.size (bj (·.pop))).get? b=some ob:=
   λb ob hb e=>(cG _ _ (Ne.symm hb)).trans ((cG _ _ (Ne.symm hb)).trans e)
  have W1:=W A.in1 (by exact hh)
  refine wpAny_pure ⟨plainId_quiet F.plain_extend_loop _,codeAny_extend_loopS W1 (by rw[hp.length_eq,aa,ao];exact al hz (by decide)) _ hSf _ L.length 0 _ _ _ rfl (ay _)
   (W1.frame 0 ({s with heap:=h',drawn:=dr}:Shared) _ s.toks hst (aI _) λb hb ob e=>oth b ob (λq=>hSf (q▸hb)) e) hS3 (ItemsOf.nil _) λs' acc' c' hm hS' hacc=>?_⟩
  show wpAny _ A (load s.heap.objs.size >>= _) _ _ s';refine wpAny_bind (wpAny_load hS' (wpAny_pure (h _ s' ?_ ?_ hm.gens hm.os)))
  ·have:acc'.toList=L:=by
    refine List.ext_getElem? λi=>?_
    rw[av];cases q:acc'[i]? with
    | none=>
     have:L.length<=i:=by have:=hacc.1;simp at q;lia
     rw[bK this]
    | some v=>rw[hacc.2 i v q]
   rw[this];exact hp
  ·intro b ob e
   have hb:b≠s.heap.objs.size:=bb (aE e);have e1:=hk b ob (ag _ e);refine hm.heap b ob ?_ (oth b ob hb e1);simp only[am,aC,or_false,not_or]
   refine⟨hb,λq=>?_⟩
   rw[q] at e;have:=ag {cls:=.type "list",data:=.seq ([]:List Value).toArray} e;rw[hfr] at this;exact f9 this
 ·rename_i hc'
  exact absurd (by decide +kernel) hc'
end
end Internal
open PySem PyProof.Rows
namespace Internal
structure Ext(s s':Shared):Prop where
 heap:∀ b o,s.heap.get? b=some o->s'.heap.get? b=some o
 gens:s'.gens=s.gens
 os:s'.os=s.os
theorem Ext.trans{a b c:Shared}(x:Ext a b)(y:Ext b c):Ext a c:=⟨λb o e=>y.heap b o (x.heap b o e),y.gens.trans x.gens,y.os.trans x.os⟩
theorem Ext.step{fr own:Addr->Prop}{Y:Hp}{s s':Shared}(x:Ext s s'):Step fr own Y Y s s':=
 ⟨⟨x.gens,x.os⟩,λb o e=>⟨o,x.heap b o e,id⟩,λb o e z_ z_=>⟨o,x.heap b o e,.inl rfl⟩,λb z_ z_ e=>x.heap b _ e,λz_ z_ z_ h=>h⟩
theorem Sim.no{g:G}{Y:Hp}{h:Heap}{c:Addr}(x:Sim g Y h)(hc:h.get? c=none):Y c=none:=by
 cases q:Y c with
 | none=>rfl
 | some o=>
  have:=(x.objs _ o q).1;refine c6 this.has λob e=>?_
  rw[hc] at e;exact f9 e
theorem P4{g F A env Z Y}{s s':Shared}{Q:V->Hp->Prop}{c:Addr}{o:AObj}(I:Inv g F A env Z Y s)(x:Ext s s')(hc:s.heap.get? c=none)(r:u8 g s'.heap c o)(h:∀ a,Y a=none->Q (.ref a) (upd Y a o)):l9 g F A env Z Y s Q (.ref c) s':=by
 have st0:=x.step (fr:=inF A) (own:=f2) (Y:=Y);have st:Step (inF A) f2 Y (upd Y c o) s s':=⟨st0.same,st0.dom,st0.keep,st0.tups,λb o e hY=>by rw[d8 _ _ (λq=>by rw[q,hc] at e;exact f9 e)];exact hY⟩
 refine(λz_ k_=>k_ _ _ (.ref _) (I.keep st ⟨(I.sim.grow x.heap).stays,λa o' e=>?_⟩) st (h _ (I.sim.no hc)))
 by_cases ha:a=c
 ·subst ha
  rw[d3] at e;refine Option.some.inj e▸⟨r,?_⟩;cases q:g.h₀.get? a with
  | none=>rfl
  | some o=>have:=I.sim.stays _ _ q;rw[hc] at this;exact f9 this
 ·rw[d8 _ _ ha] at e
  exact(I.sim.grow x.heap).objs a o' e
theorem X2{g F A env Z Y}{s s':Shared}{Q:V->Hp->Prop}{c:Addr}{vs:Array Value}{n:Nat}{l:List V}(I:Inv g F A env Z Y s)(x:Ext s s')(hc:s.heap.get? c=none)
  (ho:s'.heap.get? c=some {cls:=.type "list",data:=.seq vs n}) (r:d5 s'.heap vs.toList l) (h:∀ a,Y a=none->Q (.ref a) (upd Y a (.lst l))):l9 g F A env Z Y s Q (.ref c) s':=P4 (o:=.lst l) I x hc ⟨vs,⟨n,ho⟩,r⟩ h
noncomputable def leV:V->V->Prop
 | .int a,.int b=>a<=b
 | .str a,.str b=>a.cps.toList<=b.cps.toList
 | _,_=>False
noncomputable def ltV:V->V->Prop
 | .int a,.int b=>a<b
 | .str a,.str b=>a.cps.toList<b.cps.toList
 | _,_=>False
theorem bk4{a b:Str}(h:a.cps.toList=b.cps.toList):a=b:=by
 cases a;cases b;simp at h;rw[h]
theorem aY9(a:V):¬ ltV a a:=by
 cases a with
 | int i=>exact Int.lt_irrefl i
 | str x=>exact List.lt_irrefl x.cps.toList
 | _=>exact λh=>h
theorem bS0{a b:V}(h:leV a b)(hne:a≠b):ltV a b:=by
 cases a with
 | int i=>cases b with
  | int j=>exact Int.lt_iff_le_and_ne.mpr ⟨h,λe=>hne (congrArg V.int e)⟩
  | _=>exact h.elim
 | str x=>cases b with
  | str y=>
   rcases Decidable.em (x.cps.toList<y.cps.toList) with q | q
   ·exact q
   ·exact absurd (congrArg V.str (bk4 (List.le_antisymm h (List.not_lt.mp q)))) hne
  | _=>exact h.elim
 | _=>exact h.elim
noncomputable def Srt(l:List V):Prop:=l.Pairwise ltV
theorem aK8{l:List V}(h:l.Pairwise leV)(hn:l.Nodup):Srt l:=
 List.Pairwise.imp₂ (λa b h1 h2=>bS0 h1 h2) h hn
section
variable{prog:Program}{w:World}{A:Around}{E:Value->Shared->Prop}{s:Shared}
noncomputable def aa4(prog:Program)(w:World)(vs:List Value)(R:List Value->Prop):Prop:=
 ∀ (A:Around) (E:Value->Shared->Prop) (s:Shared) (a:Addr) (n:Nat) (P:PySem.Fin->Shared->Prop),s.heap.get? a=some (seqObj "list" vs.toArray n)->
  (∀ out:Array Value,R out.toList->P (.done (.ret .none)) {s with heap:=sortedHeap s.heap a vs out})->wpAny (model prog w) A (Builtin.«list.sort» ⟨[.ref a],[]⟩) P E s
theorem bk7{vs:List Value}{ns:List Int}(hI:IntsAre vs ns)(h64:vs.length<64):aa4 prog w vs (λout=>∃ ns',IntsAre out ns'/\ns'.Perm ns/\ns'.Pairwise (·<=·)):=
 λA E s a n P ho h=>list_sort_tree ho hI h64 λout ns' a b c=>h out ⟨ns',a,b,c⟩
theorem aS0{vs:List Value}{ss:List Str}(hS:StrsAre vs ss)(h64:vs.length<64):aa4 prog w vs (λout=>∃ ss',StrsAre out ss'/\ss'.Perm ss/\sortedS ss'=true):=
 λA E s a n P ho h=>list_sort_treeK strKind_oneLt ho hS.keysOf (λv₁ v₂ rest e=>keyKind_strs (by rw[<- e];exact hS)) h64 λst' hp hs=>
  by refine i8 (sorted_out_str hS hp hs) λss' h1 h2 h3=>?_;exact h _ ⟨ss',h1,h2,h3⟩
theorem aq3{x:Value}{Q:Value->Shared->Prop} (h:wpAny (model prog w) A.in1 (collect x) (λvs s'=>∃ R,aa4 prog w vs R/\vs.length<=sizeLine/\∀ out:Array Value,R out.toList->
   Q (.ref s'.heap.objs.size) {s' with heap:=sortedHeap (s'.heap.push (seqObj "list" vs.toArray 0)) s'.heap.objs.size vs out}) E s):wpAny (model prog w) A (call (.builtin "sorted") [x]) Q E s:=by
 refine Calls.call_function_entry kind_sorted plain_sorted entry_sorted (args_sorted1 _) ?_;unfold Builtin.«sorted»;refine wpAny_bind (m:=checkCount "sorted" 1 1 _) (wpAny_pure ?_);refine wpAny_bind (wpAny_mono h (λvs s' p_=>?_) λz_ z_ e=>e)
 refine i8 p_ λR hS hz hQ=>?_
 refine wpAny_bind (wpAny_newList ?_ hz);have hoL:(s'.heap.push (seqObj "list" vs.toArray 0)).get? s'.heap.objs.size=some (seqObj "list" vs.toArray 0):=an _ rfl;refine wpAny_bind (wpAny_holding (wpAny_call_entry slot_list_sort ⟨_,hoL,rfl⟩ entry_list_sort (hS _ _ _ _ _ _ hoL λout hR=>⟨_,rfl,?_⟩) (args_list_sort _)))
 exact wpAny_pure ⟨_,rfl,hQ out hR⟩
theorem aC4{s:Shared}{vs:List Value}{out:Array Value}:Ext s {s with heap:=sortedHeap (s.heap.push (seqObj "list" vs.toArray 0)) s.heap.objs.size vs out}:=
 ⟨λb o e=>by
  have hlt:=aE e;rw[sortedHeap_old (bb hlt) (by rw[size_push'];exact bq hlt)]
  exact ag _ e,rfl,rfl⟩
end
noncomputable def SK(l:List V):Prop:=(∃ ns:List Int,l=ns.map .int)∨(∃ ss:List Str,l=ss.map .str)
theorem bY4{h:Heap}{vs:List Value}{ns:List Int}(r:d5 h vs (ns.map .int)):IntsAre vs ns:=by
 induction ns generalizing vs with
 | nil=>rw[r.ofNil];exact .nil
 | cons n ns ih=>refine g7 r.ofCons λv us q1_ r1 r2=>?_;subst q1_;refine c6 r1.ofInt λt q1_=>?_;subst q1_;exact .cons n t (ih r2)
theorem bn0{h:Heap}{vs:List Value}{ns:List Int}(r:IntsAre vs ns):d5 h vs (ns.map .int):=by
 induction r with
 | nil=>exact .nil
 | cons n t r ih=>exact .cons (.int n t) ih
theorem aZ6{h:Heap}{vs:List Value}{ns:List Str}(r:d5 h vs (ns.map .str)):StrsAre vs ns:=by
 induction ns generalizing vs with
 | nil=>rw[r.ofNil];exact .nil
 | cons n ns ih=>refine g7 r.ofCons λv us q1_ r1 r2=>?_;subst q1_;refine c6 r1.ofStr λt q1_=>?_;subst q1_;exact .cons n t (ih r2)
theorem bx3{h:Heap}{vs:List Value}{ns:List Str}(r:StrsAre vs ns):d5 h vs (ns.map .str):=by
 induction r with
 | nil=>exact .nil
 | cons n t r ih=>exact .cons (.str n t) ih
theorem bI4(p:Str)(l:List Str):risingS p l=true->(p::l).Pairwise (λa b=>a.cps.toList<=b.cps.toList):=by
 induction l generalizing p with
 | nil=>intro _;exact .cons (λy hy=>by cases hy) .nil
 | cons x r ih0=>
  intro h;have h':(!PySem.Spec.ltCps x.cps.toList p.cps.toList&&risingS x r)=true:=h;refine c5 (aM.mp h') λh1 h2=>?_
  have ih:=ih0 x h2;have hpx:p.cps.toList<=x.cps.toList:=by
   rw[ltCps_eq] at h1;exact List.not_lt.mp (by simpa using h1)
  refine .cons (λy hy=>?_) ih
  rcases am.mp hy with e | e
  ·subst e;exact hpx
  ·exact List.le_trans hpx ((List.pairwise_cons.mp ih).1 y e)
theorem aO5{l:List Str}(h:sortedS l=true):l.Pairwise (λa b=>a.cps.toList<=b.cps.toList):=by
 cases l with
 | nil=>exact .nil
 | cons p r=>exact bI4 p r h
section
variable{prog:Program}{w:World}
theorem aI9{h:Heap}{vs:List Value}{l:List V}(r:d5 h vs l)(hk:SK l)(h64:l.length<64):aa4 prog w vs (λout=>∃ l',(∀ h',d5 h' out l')/\l'.Perm l/\l'.Pairwise leV):=by
 have hl:=r.length;rcases hk with ⟨ns,rfl⟩ | ⟨ss,rfl⟩
 ·intro A E s a n P ho hq
  refine bk7 (bY4 r) (by rw[hl];exact h64) A E s a n P ho λout p_=>?_
  refine i8 p_ λns' h1 h2 h3=>?_
  refine hq out ⟨ns'.map .int,λh'=>bn0 h1,h2.map _,?_⟩
  rw[List.pairwise_map];exact h3
 ·intro A E s a n P ho hq
  refine aS0 (aZ6 r) (by rw[hl];exact h64) A E s a n P ho λout p_=>?_
  refine i8 p_ λns' h1 h2 h3=>?_
  refine hq out ⟨ns'.map .str,λh'=>bx3 h1,h2.map _,?_⟩
  rw[List.pairwise_map];exact aO5 h3
end
theorem bC8{h:Heap}{n:Nat}(hn:h.objs.size<=n):h.get? n=none:=by
 cases q:h.get? n with
 | none=>rfl
 | some o=>exact absurd (aE q) (cf.mpr hn)
section
variable{g:G}{F:Blk}{Z:List (Option V)}{Y:Hp}{Q:V->Hp->Prop}{X:Str->Hp->Prop}
theorem bU0{a:Addr}{l:List V}(hY:Y a=some (.lst l))(hk:SK l)(h64:l.length<64)(h:∀ b l',Y b=none->l'.Perm l->l'.Pairwise leV->Q (.ref b) (upd Y b (.lst l'))) :
  Cl g F (.builtin "sorted") [.ref a] Z Y Q X:=(λA env s vs I rs=>by
  obtain⟨_,rfl,r0⟩:=rs.one;obtain rfl:=r0.ofRef;obtain⟨items,hp,r⟩:=(I.sim.objs a _ hY).1;have hl:s.heap.IsList a items.toList.toArray:=by rw[eF];exact hp.isList
  have hz:items.toList.length<=sizeLine:=by rw[r.length];exact al (cB h64) (by decide)
  refine aq3 (collect_list hl ?_ hz);refine⟨_,aI9 r hk h64,hz,λout p_=>?_⟩
  obtain⟨l',hr,hperm,hpw⟩:=p_;have x1:Ext s {s with heap:=(s.heap.push (seqObj "list" #[] 0)).update s.heap.objs.size (bj (· ++ items.toList.toArray))}:=⟨λb o e=>by
   show((s.heap.push (seqObj "list" #[] 0)).update s.heap.objs.size (bj (· ++ items.toList.toArray))).get? b=some o
   rw[Heap.get?_update_ne _ _ _ _ (bb (aE e))];exact ag _ e,rfl,rfl⟩
  obtain⟨e,he⟩:=sortedHeap_at (out:=out) (vs:=items.toList) (n:=0) (h:=(((s.heap.push (seqObj "list" #[] 0)).update s.heap.objs.size (bj (· ++ items.toList.toArray))).push (seqObj "list" items.toList.toArray 0)))
   (a:=((s.heap.push (seqObj "list" #[] 0)).update s.heap.objs.size (bj (· ++ items.toList.toArray))).objs.size) (an _ rfl)
  refine X2 I (x1.trans aC4) (bC8 ?_) he (hr _) λb hb=>h b l' hb hperm hpw
  rw[Heap.size_update,size_push'];lia)
theorem bt9{prog:Program}{w:World}{K:Type}[DecidableEq K](l:List K):∀ (ks:List K) (x:K),x∈l.foldl s7 ks↔x∈ks∨x∈l:=by
 induction l with
 | nil=>intro ks x;exact⟨.inl,λh=>h.elim id λq=>by cases q⟩
 | cons k l ih=>
  intro ks x;refine(ih (s7 ks k) x).trans ?_;have h0:x∈s7 ks k↔x∈ks∨x=k:=by
   unfold s7;by_cases hk:k∈ks
   ·rw[if_pos hk];exact⟨.inl,λh=>h.elim id λq=>q▸hk⟩
   ·rw[if_neg hk,au,ah]
  rw[h0,am,or_assoc]
theorem bS3{prog:Program}{w:World}{K:Type}[DecidableEq K]{knd:PySem.KeyKind prog w K}{mk:K->V}(hmk:∀ h v k,knd.is k v=true->Rep h v (mk k)){h:Heap}:∀ {es:List (Int×Value)} {ks:List K},KA knd es ks->d5 h (es.map (·.2)) (ks.map mk):=by
 intro es ks r;induction r with
 | nil=>exact .nil
 | cons h1 _ _ r ih=>exact .cons (hmk _ _ _ h1) ih
theorem cc8{h:Heap}{vs us:List Value}(p:vs.Perm us):∀ {l:List V},d5 h vs l->∃ k,d5 h us k/\l.Perm k:=by
 induction p with
 | nil=>intro l r;exact⟨l,r,.refl _⟩
 | cons x _ ih=>
  intro l r;refine g7 r.uncons λy k q1_ r0 rs=>?_;subst q1_
  refine a9 (ih rs) λk hk hp=>?_
  exact⟨_::k,.cons r0 hk,hp.cons _⟩
 | swap x y l'=>
  intro l r;refine g7 r.uncons λz k q1_ r0 rs=>?_;subst q1_
  refine g7 rs.uncons λz' k' q1_ r1 rs'=>?_;subst q1_
  exact⟨_::_::_,.cons r1 (.cons r0 rs'),.swap ..⟩
 | trans _ _ ih1 ih2=>
  intro l r;refine a9 (ih1 r) λk hk hp=>?_
  refine a9 (ih2 hk) λk' hk' hp'=>?_
  exact⟨k',hk',hp.trans hp'⟩
theorem aT9{K:Type}[DecidableEq K]{knd:PySem.KeyKind g.prog g.w K}{mk:K->V}(hmk:∀ h v k,knd.is k v=true->Rep h v (mk k))(hsk:∀ ks:List K,SK (ks.map mk))(hinj:∀ a b,mk a=mk b->a=b)
  {A:Around} {env:Env} {s sv:Shared} {c:Addr} {ks:List K} {E:Value->Shared->Prop} (I:Inv g F A env Z Y s) (hh:A.handled=none) (x:Ext s sv) (hset:r9 knd sv.heap c (u9 g.w) ks) (h64:ks.length<64)
  (h:∀ b l,Y b=none->Srt l->(∀ y,y∈l↔y∈ks.map mk)->Q (.ref b) (upd Y b (.lst l))) :
  wpAny (model g.prog g.w) A (call (.builtin "sorted") [.ref c]) (l9 g F A env Z Y s Q) E sv:=by
 refine hset _ ?_;clear hset;rintro o es ep t ks' ho hex hd ka hp hn hb hf ht;have hlen:=ka.length;have hlen':=hp.length_eq;refine aq3 (bL7 (A:=A.in1) hh ho hex.1 hd hf ht (by rw[<- ao,hlen,hlen'];lia) λvs s' hperm hkeep hg hos=>?_)
 refine a9 (cc8 (h:=s'.heap) hperm.symm (bS3 hmk ka)) λl hl hlp=>?_
 have hls:SK l:=by
  obtain⟨ks2,rfl⟩:∃ ks2:List K,l=ks2.map mk:=by
   have hmem:∀ y∈l,∃ k,y=mk k:=λy hy=>by
    refine a9 (ai.mp (hlp.mem_iff.mpr hy)) λk z_ e=>?_;exact⟨k,e.symm⟩
   clear hlp hl;induction l with
   | nil=>exact⟨[],rfl⟩
   | cons y l ih=>
    obtain⟨k,rfl⟩:=hmem y (by simp)
    obtain⟨ks3,e⟩:=ih λz hz=>hmem z (aG _ hz)
    exact⟨k::ks3,by rw[e];rfl⟩
  exact hsk ks2
 have hll:l.length=ks.length:=by rw[<- hlp.length_eq,aa,hlen']
 have hvl:vs.length=ks.length:=by rw[hl.length,hll]
 refine⟨_,aI9 hl hls (by lia),by rw[hvl];exact al (cB h64) (by decide),λout p_=>?_⟩
 refine i8 p_ λl' hr hperm' hpw=>?_
 obtain⟨e,he⟩:=sortedHeap_at (out:=out) (vs:=vs) (n:=0) (h:=s'.heap.push (seqObj "list" vs.toArray 0)) (a:=s'.heap.objs.size) (an _ rfl);have x2:Ext sv s':=⟨hkeep,hg,hos⟩;have hpm:l'.Perm (ks.map mk):=hperm'.trans (hlp.symm.trans (hp.map mk));refine X2 I ((x.trans x2).trans aC4) ?_ he (hr _) λb hb=>h b l' hb (aK8 hpw (hpm.nodup_iff.mpr ?_)) λy=>hpm.mem_iff
 ·cases q:s.heap.get? s'.heap.objs.size with
  | none=>rfl
  | some o=>have:=(x.trans x2).heap _ _ q;rw[u6] at this;exact f9 this
 ·exact List.Pairwise.map mk (λa b hab q=>hab (hinj _ _ q)) hn
end
theorem ch2{K:Type}(d:K)(l:List K):(da 0 l.length).map (λi=>(l[i]?).getD d)=l:=by
 refine List.ext_getElem (by simp) λi h1 h2=>?_
 simp[h2]
theorem d5.at_map{K:Type}{mk:K->V}{h:Heap}{vs:List Value}{ks:List K}(r:d5 h vs (ks.map mk))(d:K){i:Nat}{v:Value}(hv:vs[i]?=some v):Rep h v (mk ((ks[i]?).getD d)):=by
 have hi:i<vs.length:=(aj.mp hv).1;have hlen:=r.length;rw[aa] at hlen;have hk:(ks.map mk)[i]?=some (mk (ks[i]'(by lia))):=by simp[show i<ks.length by lia]
 refine a9 (r.get hk) λv' e r'=>?_
 rw[hv] at e;replace e:=i5 e;subst e;rw[ae (show i<ks.length by lia)]
 exact r'
section
variable{g:G}{F:Blk}{Z:List (Option V)}{Y:Hp}{Q:V->Hp->Prop}{X:Str->Hp->Prop}
theorem aw8{K:Type}[DecidableEq K](knd:PySem.KeyKind g.prog g.w K)(mk:K->V)(d:K)(hmk:∀ h v k,knd.is k v=true->Rep h v (mk k))(hsk:∀ ks:List K,SK (ks.map mk))(hinj:∀ a b,mk a=mk b->a=b)(hval:∀ h v k,Rep h v (mk k)->Z2 knd v k)
  {A:Around} {env:Env} {s:Shared} {a:Addr} {ks:List K} {E:Value->Shared->Prop} (I:Inv g F A env Z Y s) (hh:A.handled=none) (hY:Y a=some (.lst (ks.map mk))) (h64:ks.length<64)
  (h:∀ b l,Y b=none->Srt l->(∀ y,y∈l↔y∈ks.map mk)->Q (.ref b) (upd Y b (.lst l))) :
  wpAny (model g.prog g.w) A (call (.type "set") [.ref a]) (λv s2=>wpAny (model g.prog g.w) A (call (.builtin "sorted") [v]) (l9 g F A env Z Y s Q) E s2) E s:=by
 refine a9 ((I.sim.objs a _ hY).1) λitems hp r=>?_
 have hsz:items.size=ks.length:=by rw[<- ao,r.length,aa]
 refine aU3 (knd:=knd) (val:=λi=>(ks[i]?).getD d) hh hp.isList (λi v hv=>hval s.heap _ _ (r.at_map d (by rw[av];exact hv))) (by rw[hsz];exact bQ (Nat.succ_lt_succ h64) (by decide)) λh' tk hset hk=>?_
 rw[hsz,ch2] at hset;have hle:=au6 ks ([]:List K);refine aT9 hmk hsk hinj I hh (sv:={s with heap:=h',toks:=tk}) ⟨λb o e=>hk b o (aE e) e,rfl,rfl⟩ hset (by simp at hle;lia) λb l hb hs hm=>h b l hb hs λy=>(hm y).trans ?_
 simp only[ai,bt9 (prog:=g.prog) (w:=g.w) ks [],aC,false_or]
theorem bu7{xs xt:Str}{np np' pos p':Pos}{e:Expr}(hb:Bi g xs (.builtin "sorted"))(hb':Bi g xt (.type "set"))(hk:F.sc.names.lookup xs=some .globalImplicit)(hk':F.sc.names.lookup xt=some .globalImplicit)(hq:F.q=true)
  (h:Ev g F e Z Y (λv zs=>∃ a l,v=.ref a/\zs a=some (.lst l)/\SK l/\l.length<64/\∀ b L,zs b=none->Srt L->(∀ y,y∈L↔y∈l)->Q (.ref b) (upd zs b (.lst L))) X)
  (hd:(xs==("__debug__" : Str))=false) (hd':(xt==("__debug__" : Str))=false) (he:∀ env,starEach [e] env=[(false,eval e env)]) :
  Ev g F (.Call (.Name xs np) [.Call (.Name xt np') [e] [] p'] [] pos) Z Y Q X:=(λA env s I=>by
 have hh:=I.quiet hq;have hEvs:Evs g F [e] Z Y (λvs zs=>∃ v,vs=[v]/\∃ a l,v=.ref a/\zs a=some (.lst l)/\SK l/\l.length<64/\∀ b L,zs b=none->Srt L->(∀ y,y∈L↔y∈l)->Q (.ref b) (upd zs b (.lst L))) X:=
  Q1 (h.mono λv zs hv=>U7 ⟨v,rfl,hv⟩) (by intros;rfl) he
 have inner:wpAny (model g.prog g.w) A (eval (.Call (.Name xt np') [e] [] p') env) (λv s2=>wpAny (model g.prog g.w) A (call (.builtin "sorted") [v]) (l9 g F A env Z Y s Q) (k9 g F A env Z Y s X) s2) (k9 g F A env Z Y s X) s:=by
  refine wpAny_Call_ofName (Calls.Name_function_global I.fn (by show env.scope.names.lookup xt=_;rw[I.scope];exact hk') (aK (by rw[I.glob];exact g.ns.keeps I.sim.stays) hb'.1 (by rw[I.bltn];exact g.nb.keeps I.sim.stays) hb'.2 ?_) hd')
  refine c5 (hEvs A env s p' I) λhw hp=>?_
  refine callWith_excType hp (x9 hp (wpAny_mono hw (λvs sv p0=>?_) λz_ z_ p=>p))
  refine p0 _ ?_;clear p0;rintro Vs zs rs I1 st1 q;obtain⟨v,rfl,a,l,rfl,hY,hsk,h64,hQ⟩:=q;refine a9 rs.one λz_ q1_ r0=>?_;subst q1_
  obtain rfl:=r0.ofRef;rcases hsk with ⟨ns,rfl⟩ | ⟨ss,rfl⟩
  ·refine wpAny_mono (aw8 (intKind g.prog g.w) .int 0 (λh v k hv=>by refine c6 (Value.isInt_shape hv) λt q1_=>?_;subst q1_;exact .int _ _) (λks=>.inl ⟨ks,rfl⟩) (λa b e=>by cases e;rfl) (λh v k r=>by refine c6 r.ofInt λz_ q1_=>?_;subst q1_;exact⟨by simp[intKind,Value.isInt],rfl⟩) I1 hh hY (by simpa using h64) hQ)
    (λv s2 hv=>wpAny_mono hv (λz_ z_ p=>p.step st1) λz_ z_ p=>p) λz_ z_ p=>p
  ·refine wpAny_mono (aw8 (PySem.strKind g.prog g.w) .str ⟨#[]⟩ (λh v k hv=>by refine c6 (Value.isStrOf_shape hv) λt q1_=>?_;subst q1_;exact .str _ _) (λks=>.inr ⟨ks,rfl⟩) (λa b e=>by cases e;rfl) (λh v k r=>by refine c6 r.ofStr λz_ q1_=>?_;subst q1_;exact⟨by simp[PySem.strKind,Value.isStrOf],rfl⟩) I1 hh hY (by simpa using h64) hQ)
    (λv s2 hv=>wpAny_mono hv (λz_ z_ p=>p.step st1) λz_ z_ p=>p) λz_ z_ p=>p
 refine wpAny_Call_ofName (Calls.Name_function_global I.fn (by show env.scope.names.lookup xs=_;rw[I.scope];exact hk) (aK (by rw[I.glob];exact g.ns.keeps I.sim.stays) hb.1 (by rw[I.bltn];exact g.nb.keeps I.sim.stays) hb.2 ?_) hd)
 refine bh rfl (x9 rfl ?_);exact wpAny_items_cons (wpAny_mono inner (λv s2 h2=>wpAny_items_nil h2) λz_ z_ p=>p) rfl)
end
end Internal
open PySem PySem.Builtin.Str PySem.StrLaws
namespace Internal
noncomputable def H4(x:Str):List V:=x.cps.toList.map λc=>.str ⟨#[c]⟩
theorem aA7{x:Str}{i:Nat}{v:V}(h:(H4 x)[i]?=some v):∃ c,x.cps[i]?=some c/\v=.str ⟨#[c]⟩:=by
 unfold H4 at h;rw[aq,av] at h;cases q:x.cps[i]? with
 | none=>rw[q] at h;cases h
 | some c=>rw[q] at h;exact⟨c,rfl,(Option.some.inj h).symm⟩
theorem ae6(x:Str):(H4 x).length=x.cps.size:=by simp[H4]
theorem bY8{g:G}{A:Around}(hh:A.handled=none){I:Addr}{x:Str}{t:Tok}:IterOK g A I (H4 x) (λz_=>True) (λi h=>h.IsStrIter I "str_ascii_iterator" x t i) where
 frame:=λi h h' st k z_=>by refine a9 st λo ho r=>?_;exact⟨o,k _ ho,r⟩
 obj:=λi h st=>by refine i8 st λo ho z_ hd=>?_;exact⟨o,_,ho,hd⟩
 item:=λi v Y s Q E hx st sm hK hQ=>by
  refine a9 (aA7 hx) λc hc q1_=>?_;subst q1_
  exact wpAny_pyNext_ascii_item st hc λh' hit' hs'=>hQ _ h' _ (.str _ _) hit' hs'.extBut
 done:=λY s Q E st sm hK hQ=>by
  rw[ae6] at st;exact wpAny_pyNext_ascii_end hh st (by simp) λh' he=>hQ h' s.toks he
 self:=λi s Q E st hQ=>wpAny_pyIter_striter_ascii st hQ
 plain:=λi s v elts k pos Q E st hQ=>by refine i8 st λo ho hc hd=>?_;exact R7 ho hc hd (by decide) hQ
theorem bc3{g:G}{A:Around}(hh:A.handled=none){I:Addr}{x:Str}{t:Tok}:IterOK g A I (H4 x) (λz_=>True) (λi h=>h.IsStrIter I "str_iterator" x t i) where
 frame:=λi h h' st k z_=>by refine a9 st λo ho r=>?_;exact⟨o,k _ ho,r⟩
 obj:=λi h st=>by refine i8 st λo ho z_ hd=>?_;exact⟨o,_,ho,hd⟩
 item:=λi v Y s Q E hx st sm hK hQ=>by
  refine a9 (aA7 hx) λc hc q1_=>?_;subst q1_
  exact wpAny_pyNext_wide_item st hc λh' hit' hs'=>hQ _ h' _ (.str _ _) hit' hs'.extBut
 done:=λY s Q E st sm hK hQ=>by
  rw[ae6] at st;exact wpAny_pyNext_wide_end hh st (by simp) λh' he=>hQ h' s.toks he
 self:=λi s Q E st hQ=>wpAny_pyIter_striter_wide st hQ
 plain:=λi s v elts k pos Q E st hQ=>by refine i8 st λo ho hc hd=>?_;exact R7 ho hc hd (by decide) hQ
noncomputable def sls(lo hi:Option Int)(x:Str):Str:=⟨(slc lo hi x.cps.toList).toArray⟩
theorem T2(n:Nat)(i:Int):max 0 (min (if i<0 then i+n else i) (n:Int))=((clipAt n i:Nat):Int):=(clipAt_cast n i).symm
theorem U0(n:Nat)(i:Int):clipAt n i<=n:=by
 have:=clipAt_cast n i;exact eV.mp (this▸Int.max_le.mpr ⟨aJ n,Int.min_le_right _ _⟩)
theorem bi0(lo hi:Option Int)(n:Nat):Builtin.Str.strSliceIndices lo hi 1 n=Builtin.Str.strSliceIndices (some ((lo.elim 0 (clipAt n):Nat):Int)) (some ((hi.elim n (clipAt n):Nat):Int)) 1 n:=by
 have e:∀ k:Nat,k<=n->max (0:Int) (min (if ((k:Int)<0) then(k:Int)+n else k) (n:Int))=k:=λk hk=>by
  rw[if_neg (by lia)];lia
 unfold Builtin.Str.strSliceIndices;simp only[show((1:Int) > 0)=True from eq_true (by decide),if_true]
 have h1:(lo.elim 0 (clipAt n))<=n:=by cases lo with | none=>exact ay _ | some i=>exact U0 n i
 have h2:(hi.elim n (clipAt n))<=n:=by cases hi with | none=>exact aI _ | some i=>exact U0 n i
 rw[e _ h1,e _ h2];cases lo with
 | none=>
  cases hi with
  | none=>rfl
  | some j=>simp only[dX];rw[T2 n j];rfl
 | some i=>
  cases hi with
  | none=>simp only[dX];rw[T2 n i]
  | some j=>simp only[dX];rw[T2 n i,T2 n j]
set_option tactic.hygienic true in
theorem aT8(x:Str)(lo hi:Option Int):sliceText x lo hi=sls lo hi x:=by
 have h1:(lo.elim 0 (clipAt x.length))<=x.length:=by cases lo with | none=>exact ay _ | some i=>exact U0 _ i
 have h2:(hi.elim x.length (clipAt x.length))<=x.length:=by cases hi with | none=>exact aI _ | some i=>exact U0 _ i
 have hlen:x.cps.toList.length=x.length:=by simp[Str.length]
 have e0:sliceText x lo hi=sliceText x (some ((lo.elim 0 (clipAt x.length):Nat):Int)) (some ((hi.elim x.length (clipAt x.length):Nat):Int)):=by
  unfold sliceText;rw[<- bi0 lo hi x.length]
 rw[e0];unfold sls slc;rw[hlen];generalize lo.elim 0 (clipAt x.length)=a at *;generalize hi.elim x.length (clipAt x.length)=b at *;by_cases hab:a<=b
 ·exact sliceText_nat x hab h2
 ·have e1:Builtin.Str.strSliceIndices (some (a:Int)) (some (b:Int)) 1 x.length=[]:=by
   unfold Builtin.Str.strSliceIndices;simp only[show((1:Int) > 0)=True from eq_true (by decide),if_true]
   rw[if_neg (by lia),if_neg (by lia)]
   have e2:max (0:Int) (min (a:Int) (x.length:Int))=a:=bU9 (by lia)
   have e3:max (0:Int) (min (b:Int) (x.length:Int))=b:=by lia
   rw[e2,e3];unfold sliceRange;simp
   lia
  unfold sliceText;rw[e1];have hb0:b-a=0:=by lia
  rw[hb0,List.take_zero]
  split
  ·rename_i h
   exfalso;simp at h
   lia
  ·rfl
section
variable{g:G}{F:Blk}{Z:List (Option V)}{Y:Hp}{Q:V->Hp->Prop}{QB:Bool->Hp->Prop}{X:Str->Hp->Prop}
theorem ak4{A env s}{x:Str}{tk tk':Nat}(I:Inv g F A env Z Y s)(h:Q (.str x) Y):l9 g F A env Z Y s Q (.str x tk) {s with toks:=tk'}:=
 (λz_ k_=>k_ _ Y (.str _ _) (I.keep Step.toks I.sim) Step.toks h)
theorem P6{t:Value->Value->Sem Value}{a b:Str}(k:∀ A env s u v,Inv g F A env Z Y s->wpAny (model g.prog g.w) A (t (.str a u) (.str b v)) (l9 g F A env Z Y s Q) (k9 g F A env Z Y s X) s):Op2 g F t (.str a) (.str b) Z Y Q X:=(λA env s x y I rx ry=>by
 refine c6 rx.ofStr λu q1_=>?_;subst q1_;refine c6 ry.ofStr λv q1_=>?_;subst q1_;exact k A env s u v I)
theorem bg3{x y:Str}(hz:x.length+y.length<=10000)(h:Q (.str (x++y)) Y):Op2 g F (binaryOp .Add) (.str x) (.str y) Z Y Q X:=P6 λA env s z_ z_ I=>SB.add (λz_ z_=>ak4 I h) (al hz (by decide))
theorem eq_str{x y:Str}(h:Q (.bool (x==y)) Y):Op2 g F (compareOp .Eq) (.str x) (.str y) Z Y Q X:=P6 λA env s z_ z_ I=>PyProof.Rows.eq_str (n6 I h)
theorem ne_str{x y:Str}(h:Q (.bool (x != y)) Y):Op2 g F (compareOp .NotEq) (.str x) (.str y) Z Y Q X:=P6 λA env s z_ z_ I=>PyProof.Rows.ne_str (n6 I h)
theorem bE2{x y:Str}(h:Q (.bool (Txt.contains x y)) Y):Op2 g F (compareOp .In) (.str y) (.str x) Z Y Q X:=P6 λA env s z_ z_ I=>SB.contains (n6 I h)
theorem bs9{x y:Str}(h:Q (.bool (!Txt.contains x y)) Y):Op2 g F (compareOp .NotIn) (.str y) (.str x) Z Y Q X:=P6 λA env s z_ z_ I=>SB.notContains (n6 I h)
theorem by0{x:Str}(hfit:(x.length:Int)<2 ^ 63)(h:Q (.int x.length) Y):Cl g F (.builtin "len") [.str x] Z Y Q X:=(λA env s vs I r=>by
 refine a9 r.one λz_ q1_ r0=>?_;subst q1_;refine c6 r0.ofStr λz_ q1_=>?_;subst q1_;exact PyProof.Rows.len_str (by lia) (B3 I h))
theorem ci9{x:Str}{k:Int}{c:Nat}(h0:0<=k)(hhi:k<2 ^ 63)(hx:x.cps[k.toNat]?=some c)(h:Q (.str ⟨#[c]⟩) Y):Itm g F (.str x) (.int k) Z Y Q X:=(λA env s v y I rx ry=>by
 refine c6 rx.ofStr λz_ q1_=>?_;subst q1_;refine c6 ry.ofInt λz_ q1_=>?_;subst q1_
 exact⟨"str",_,typeIs_str _ _ _,PySem.F.slot_str_getitem.lookup,P.getItem_str (by simp;lia) (at_nonneg h0 hx) (ak4 I h)⟩)
theorem bf7{x:Str}{k:Int}(h0:0<=k)(h1:k<x.length)(hz:k<2 ^ 63)(h:∀ c,x.cps[k.toNat]?=some c->Q (.str ⟨#[c]⟩) Y):Itm g F (.str x) (.int k) Z Y Q X:=by
 refine c6 (some_at h0 h1) λc hc=>?_
 exact ci9 h0 hz hc (h c hc)
theorem aR9{x:Str}{lo hi:Option Int}(hz:x.length<=10000)(h:Q (.str (sls lo hi x)) Y):Slc g F (.str x) lo hi Z Y Q X:=(λA env s v sl vl vu I r hs pl pu=>by
 refine c6 r.ofStr λt q1_=>?_;subst q1_
 obtain⟨l,hl,el⟩:∃ l:Option (Int×Tok),vl=partValue l/\l.map (·.1)=lo:=by
  cases pl with
  | none=>exact⟨none,rfl,rfl⟩
  | int i t=>exact⟨some (i,t),rfl,rfl⟩
 obtain⟨u,hu,eu⟩:∃ u:Option (Int×Tok),vu=partValue u/\u.map (·.1)=hi:=by
  cases pu with
  | none=>exact⟨none,rfl,rfl⟩
  | int i t=>exact⟨some (i,t),rfl,rfl⟩
 subst hl hu;refine i8 hs λo ho hc hd=>?_
 have e:Txt.slice x lo hi=sls lo hi x:=aT8 x lo hi;refine⟨"str",_,typeIs_str _ _ _,PySem.F.slot_str_getitem.lookup,wpAny_getItem_str_slice (l:=l) (u:=u) (st:=none) ⟨o,ho,hc,hd⟩ rfl (post_val_or_str ⟨?_,λt' k=>?_⟩)⟩
 ·subst el eu
  exact al (Txt.slice_le x _ _) (al hz (by decide))
 ·subst el eu
  exact ak4 I (by rw[<- e] at h;exact h))
theorem bf0{b:Bool}(h:Q (.int (if b then 1 else 0)) Y):Cl g F (.type "int") [.bool b] Z Y Q X:=(λA env s vs I r=>by
 refine a9 r.one λz_ q1_ r0=>?_;subst q1_;obtain rfl:=r0.ofBool;exact call_int_bool (B3 I h))
end
mutual
noncomputable def dat:V->PyData
 | .none=>.none
 | .bool b=>.bool b
 | .int i=>.int i
 | .str x=>.str x
 | .tup l=>.tuple (l4 l)
 | .ref _=>.none
noncomputable def l4:List V->List PyData
 | []=>[]
 | x::l=>dat x::l4 l
end
mutual
noncomputable def flat:V->Bool
 | .none=>true
 | .bool _=>true
 | .int _=>true
 | .str x=>PyData.strOk x
 | .tup l=>flatL l
 | .ref _=>false
noncomputable def flatL:List V->Bool
 | []=>true
 | x::l=>flat x&&flatL l
end
theorem Rep.reads{h:Heap}{v:Value}{a:V}(r:Rep h v a)(hf:flat a=true):Reads h v (dat a) []:=
 V.rec (motive_1:=λa=>∀ v,Rep h v a->flat a=true->Reads h v (dat a) []) (motive_2:=λl=>∀ vs,d5 h vs l->flatL l=true->ReadsAll h vs (l4 l) [])
  (λv r z_=>by rw[r.ofNone];exact .none) (λb v r z_=>by rw[r.ofBool];exact .bool b) (λi v r z_=>by refine c6 r.ofInt λt q1_=>?_;subst q1_;exact .int i t) (λx v r z_=>by refine c6 r.ofStr λt q1_=>?_;subst q1_;exact .str x t)
  (λl ih v r hf=>by refine l6 r.ofTup λa vs n q1_ ho r2=>?_;subst q1_;exact .tuple ho rfl rfl (ih _ r2 hf)) (λa v r hf=>(ac hf).elim)
  (λvs r z_=>by rw[r.ofNil];exact .nil)
  (λx l hx hl vs r hf=>by
   refine g7 r.ofCons λv us q1_ r1 r2=>?_;subst q1_
   have hf':(flat _&&flatL _)=true:=hf;refine c5 (aM.mp hf') λh1 h2=>?_
   exact .cons (as:=[]) (bs:=[]) (hx _ r1 h1) (hl _ r2 h2)) a v r hf
theorem d5.reads{h:Heap}{vs:List Value}{l:List V}(r:d5 h vs l)(hf:flatL l=true):ReadsAll h vs (l4 l) []:=by
 induction l generalizing vs with
 | nil=>rw[r.ofNil];exact .nil
 | cons x l ih=>
  refine g7 r.ofCons λv us q1_ r1 r2=>?_;subst q1_
  have hf':(flat _&&flatL _)=true:=hf;refine c5 (aM.mp hf') λh1 h2=>?_
  exact .cons (as:=[]) (bs:=[]) (r1.reads h1) (ih r2 h2)
theorem I7{a:V}:flat a=true->(dat a).canLay0=true:=
 V.rec (motive_1:=λa=>flat a=true->(dat a).canLay0=true) (motive_2:=λl=>flatL l=true->PyData.canLayAll0 (l4 l)=true) (λz_=>rfl) (λz_ z_=>rfl) (λz_ z_=>rfl) (λz_ h=>h) (λz_ ih h=>ih h) (λz_ h=>(ac h).elim) (λz_=>rfl)
  (λx l hx hl h=>by
   refine c5 (aM.mp (show(flat x&&flatL l)=true from h)) λh1 h2=>?_
   show((dat x).canLay0&&PyData.canLayAll0 (l4 l))=true;rw[hx h1,hl h2];rfl) a
theorem G1{l:List V}(h:flatL l=true):PyData.canLayAll0 (l4 l)=true:=I7 (a:=.tup l) h
mutual
noncomputable def G8:V->Bool
 | .none=>true
 | .int _=>true
 | .str _=>true
 | .tup l=>M2 l
 | _=>false
noncomputable def M2:List V->Bool
 | []=>true
 | x::l=>G8 x&&M2 l
end
theorem aC5{a b:V}:G8 a=true->G8 b=true->(PyData.eqv (dat a) (dat b)=true↔a=b):=
 V.rec (motive_1:=λa=>∀ b,G8 a=true->G8 b=true->(PyData.eqv (dat a) (dat b)=true↔a=b)) (motive_2:=λl=>∀ k,M2 l=true->M2 k=true->(PyData.eqvAll (l4 l) (l4 k)=true↔l=k))
  (λb z_ hb=>by
   cases b with
   | none=>exact⟨λz_=>rfl,λz_=>rfl⟩
   | bool _=>exact(ac hb).elim
   | ref _=>exact(ac hb).elim
   | _=>exact⟨λh=>(ac h).elim,λh=>(by cases h)⟩)
  (λz_ z_ ha z_=>(ac ha).elim)
  (λi b z_ hb=>by
   cases b with
   | int j=>exact⟨λh=>congrArg V.int (eq_of_beq h),λh=>beq_iff_eq.mpr (V.int.inj h)⟩
   | bool _=>exact(ac hb).elim
   | ref _=>exact(ac hb).elim
   | _=>exact⟨λh=>(ac h).elim,λh=>(by cases h)⟩)
  (λi b z_ hb=>by
   cases b with
   | str j=>exact⟨λh=>congrArg V.str (eq_of_beq h),λh=>beq_iff_eq.mpr (V.str.inj h)⟩
   | bool _=>exact(ac hb).elim
   | ref _=>exact(ac hb).elim
   | _=>exact⟨λh=>(ac h).elim,λh=>(by cases h)⟩)
  (λl ih b ha hb=>by
   cases b with
   | tup k=>exact⟨λh=>congrArg V.tup ((ih k ha hb).mp h),λh=>(ih k ha hb).mpr (V.tup.inj h)⟩
   | bool _=>exact(ac hb).elim
   | ref _=>exact(ac hb).elim
   | _=>exact⟨λh=>(ac h).elim,λh=>(by cases h)⟩)
  (λz_ z_ ha z_=>(ac ha).elim)
  (λk z_ z_=>by
   cases k with
   | nil=>exact⟨λz_=>rfl,λz_=>rfl⟩
   | cons _ _=>exact⟨λh=>(ac h).elim,λh=>(by cases h)⟩)
  (λx l hx hl k ha hb=>by
   cases k with
   | nil=>exact⟨λh=>(ac h).elim,λh=>(by cases h)⟩
   | cons y k=>
    refine c5 (aM.mp (show(G8 x&&M2 l)=true from ha)) λh1 h2=>?_
    refine c5 (aM.mp (show(G8 y&&M2 k)=true from hb)) λh3 h4=>?_
    refine Iff.trans (show(PyData.eqv (dat x) (dat y)&&PyData.eqvAll (l4 l) (l4 k))=true↔_ from aM) ?_
    rw[hx y h1 h3,hl k h2 h4];exact⟨λh=>by rw[h.1,h.2],λh=>List.cons.inj h⟩) a b
theorem ca4(l:List V):l4 l=l.map dat:=by
 induction l with
 | nil=>rfl
 | cons x l ih=>simp[l4,ih]
noncomputable def dep(a:V):Nat:=(dat a).depth
noncomputable def depL(l:List V):Nat:=PyData.depthAll (l4 l)
section
variable{g:G}{F:Blk}{Z:List (Option V)}{Y:Hp}{Q:V->Hp->Prop}{QB:Bool->Hp->Prop}{X:Str->Hp->Prop}
theorem ah3{a b:V}(ha:flat a=true)(hb:flat b=true)(hu:min (dep a) (dep b)<=8*F.d)(h:Q (.bool (PyData.eqv (dat a) (dat b))) Y):Op2 g F (compareOp .Eq) a b Z Y Q X:=(λA env s x y I rx ry=>
 SeqAt.compareEq_reads (rx.reads ha) (ry.reads hb) (I7 ha) (I7 hb) (by have:=I.units;unfold dep at hu;lia) (n6 I h))
theorem ab4{a b:V}(ha:flat a=true)(hb:flat b=true)(hu:min (dep a) (dep b)<=8*F.d)(h:Q (.bool (!PyData.eqv (dat a) (dat b))) Y):Op2 g F (compareOp .NotEq) a b Z Y Q X:=(λA env s x y I rx ry=>
 SeqAt.compareNe_reads (rx.reads ha) (ry.reads hb) (I7 ha) (I7 hb) (by have:=I.units;unfold dep at hu;lia) (n6 I h))
theorem N4{A env s}{a:Addr}{l:List V}(I:Inv g F A env Z Y s)(hY:Y a=some (.lst l))(hf:flatL l=true):Reads s.heap (.ref a) (.list (l4 l)) [a]:=by
 obtain⟨vs,⟨n,ho⟩,r⟩:=(I.sim.objs a _ hY).1;exact .list ho rfl rfl (r.reads hf)
theorem bl2{a b:Addr}{l k:List V}(ha:Y a=some (.lst l))(hb:Y b=some (.lst k))(hl:flatL l=true)(hk:flatL k=true)(hu:min (depL l) (depL k)+1<=8*F.d)(h:Q (.bool (PyData.eqvAll (l4 l) (l4 k))) Y):Op2 g F (compareOp .Eq) (.ref a) (.ref b) Z Y Q X:=(λA env s x y I rx ry=>by
 obtain rfl:=rx.ofRef;obtain rfl:=ry.ofRef;refine SeqAt.compareEq_reads (N4 I ha hl) (N4 I hb hk) (G1 hl) (G1 hk) ?_ (n6 I h);have:=I.units;show A.units+min (PyData.depthAll (l4 l)+1) (PyData.depthAll (l4 k)+1)<cLine;unfold depL at hu;lia)
theorem bN4{a b:Addr}{l k:List V}(ha:Y a=some (.lst l))(hb:Y b=some (.lst k))(hl:flatL l=true)(hk:flatL k=true)(hu:min (depL l) (depL k)+1<=8*F.d)(h:Q (.bool (!PyData.eqvAll (l4 l) (l4 k))) Y):Op2 g F (compareOp .NotEq) (.ref a) (.ref b) Z Y Q X:=(λA env s x y I rx ry=>by
 obtain rfl:=rx.ofRef;obtain rfl:=ry.ofRef;refine SeqAt.compareNe_reads (N4 I ha hl) (N4 I hb hk) (G1 hl) (G1 hk) ?_ (n6 I h);have:=I.units;show A.units+min (PyData.depthAll (l4 l)+1) (PyData.depthAll (l4 k)+1)<cLine;rw[cN];exact bx (cr hu _) I.units)
theorem bQ9{a:Addr}{l:List V}{x:V}(ha:Y a=some (.lst l))(hl:flatL l=true)(hx:flat x=true)(hu:min (depL l) (dep x)+1<=8*F.d)(h:Q (.bool ((l4 l).any λy=>PyData.eqv y (dat x))) Y):Op2 g F (compareOp .In) x (.ref a) Z Y Q X:=(λA env s u v I ru rv=>by
 obtain rfl:=rv.ofRef;refine SeqAt.in_list_reads (N4 I ha hl) (ru.reads hx) (G1 hl) (I7 hx) ?_ (n6 I h);have:=I.units;unfold depL dep at hu;lia)
theorem bg0{a:Addr}{l:List V}{x:V}(ha:Y a=some (.lst l))(hl:flatL l=true)(hx:flat x=true)(hu:min (depL l) (dep x)+1<=8*F.d)(h:Q (.bool (!(l4 l).any λy=>PyData.eqv y (dat x))) Y):Op2 g F (compareOp .NotIn) x (.ref a) Z Y Q X:=(λA env s u v I ru rv=>by
 obtain rfl:=rv.ofRef;refine SeqAt.notIn_list_reads (N4 I ha hl) (ru.reads hx) (G1 hl) (I7 hx) ?_ (n6 I h);have:=I.units;unfold depL dep at hu;lia)
theorem bx0{l:List V}(hd:0<F.d)(h:Q (.bool (l.length==0)) Y):Op2 g F (compareOp .Eq) (.tup l) (.tup []) Z Y Q X:=(λA env s u v I ru rv=>by
   refine l6 ru.ofTup λa us n q1_ h1 r1=>?_;subst q1_
   refine l6 rv.ofTup λb ws m q1_ h2 r2=>?_;subst q1_
   have e1:us.size=l.length:=by rw[<- r1.length,ao]
   have e2:ws.size=0:=by rw[<- ao,r2.length];rfl
   have hu:=I.units;refine SeqAt.eq_tupleAt (e:=λz_=>true) ⟨_,h1,rfl,_,rfl⟩ ⟨_,h2,rfl,_,rfl⟩ (by lia) (λj z_ hj=>by lia) ?_
   rw[e2,e1];simp only[Nat.min_zero,List.range_zero,List.all_nil,dp]
   exact n6 I h)
end
noncomputable def isS(x:Str):Value->Bool
 | .str y _=>y==x
 | _=>false
theorem ac3{x:Str}{h:Heap}{vs:List Value}{ss:List Str}(r:d5 h vs (ss.map .str)):(∀ y∈vs,∃ z t,y=.str z t)/\vs.any (isS x)=ss.any (· == x):=by
 induction ss generalizing vs with
 | nil=>rw[r.ofNil];exact⟨λy hy=>(nomatch hy),rfl⟩
 | cons n ns ih=>
  refine g7 r.ofCons λv us q1_ r1 r2=>?_;subst q1_
  refine c6 r1.ofStr λt q1_=>?_;subst q1_
  refine c5 (ih r2) λh1 h2=>?_
  refine⟨λy hy=>?_,by rw[List.any_cons,List.any_cons,h2];rfl⟩
  rcases am.mp hy with rfl | hy
  ·exact⟨_,_,rfl⟩
  ·exact h1 y hy
section
variable{g:G}{F:Blk}{Z:List (Option V)}{Y:Hp}{Q:V->Hp->Prop}{QB:Bool->Hp->Prop}{X:Str->Hp->Prop}
theorem af0{A:Around}{s:Shared}{vs:Array Value}{x:Str}{t:Tok}(h:∀ y∈vs.toList,∃ z t,y=.str z t):∀ y,y∈vs->SeqAt.EqAt A s y (.str x t) (isS x y):=λy hy=>by
 obtain⟨z,u,rfl⟩:=h y (by simpa using hy)
 exact λprog w E Q hq=>PyProof.Rows.eqBool_str hq
theorem aI5{a:Addr}{ss:List Str}{x:Str}(ha:Y a=some (.lst (ss.map .str)))(h:Q (.bool (ss.any (· == x))) Y):Op2 g F (compareOp .In) (.str x) (.ref a) Z Y Q X:=(λA env s u v I ru rv=>by
 obtain rfl:=rv.ofRef;refine c6 ru.ofStr λz_ q1_=>?_;subst q1_
 refine a9 ((I.sim.objs a _ ha).1) λvs hp r=>?_
 refine c5 (ac3 (x:=x) r) λh1 h2=>?_
 refine SeqAt.in_listAt (isS x) hp.isList (af0 h1) ?_;rw[<- dC,h2];exact n6 I h)
theorem aK1{a:Addr}{ss:List Str}{x:Str}(ha:Y a=some (.lst (ss.map .str)))(h:Q (.bool (!ss.any (· == x))) Y):Op2 g F (compareOp .NotIn) (.str x) (.ref a) Z Y Q X:=(λA env s u v I ru rv=>by
 obtain rfl:=rv.ofRef;refine c6 ru.ofStr λz_ q1_=>?_;subst q1_
 refine a9 ((I.sim.objs a _ ha).1) λvs hp r=>?_
 refine c5 (ac3 (x:=x) r) λh1 h2=>?_
 refine SeqAt.notIn_listAt (isS x) hp.isList (af0 h1) ?_;rw[<- dC,h2];exact n6 I h)
theorem bu5{ss:List Str}{l:List V}{x:Str}(hl:l=ss.map .str)(h:Q (.bool (ss.any (· == x))) Y):Op2 g F (compareOp .In) (.str x) (.tup l) Z Y Q X:=(λA env s u v I ru rv=>by
  subst hl;refine c6 ru.ofStr λz_ q1_=>?_;subst q1_
  refine l6 rv.ofTup λa us n q1_ ht r=>?_;subst q1_
  refine c5 (ac3 (x:=x) r) λh1 h2=>?_
  refine SeqAt.in_tupleAt (isS x) ⟨_,ht,rfl,_,rfl⟩ (af0 h1) ?_;rw[<- dC,h2];exact n6 I h)
end
noncomputable def Gs(g:G)(x:Str)(y:Str):Prop:=∃ t,g.mg x=some (.str y t)
noncomputable def Gd(g:G)(x:Str)(D:List (Str×Int)):Prop:=∃ d,g.mg x=some (.ref d)/\StrTab g.prog g.w g.h₀ d (D.map λp=>(.str p.1,.int p.2))
noncomputable def ax9:Option Int->V
 | some i=>.int i
 | none=>.none
theorem aY5(D:List (Str×Int))(x:Str):PySem.Spec.lookup (.str x) (D.map λp=>(.str p.1,.int p.2))=(D.lookup x).map .int:=by
 induction D with
 | nil=>rfl
 | cons p D ih=>
  show(if PySem.Spec.same (.str p.1) (.str x)=true then some (PyData.int p.2) else PySem.Spec.lookup (.str x) (D.map λp=>(.str p.1,.int p.2)))=_
  rw[PyProof.V.same_str,ih,aR];by_cases h:p.1=x
  ·subst h;simp
  ·have h':(x==p.1)=false:=beq_eq_false_iff_ne.mpr (Ne.symm h)
   simp[h,h']
theorem bP5(n:Nat):Builtin.Range.rangeSize 0 (n:Int) 1=n:=by
 have h:=aJ9 0 n;unfold Builtin.Range.rangeSize at h ⊢;simp only[show((1:Int) > 0)=True from eq_true (by decide),if_true] at h ⊢
 split
 ·simp
 ·lia
section
variable{g:G}{sc:Scope}{vs:List Str}{d:Nat}{q:Bool}{F:Blk}{Z:List (Option V)}{Y:Hp}{Q:V->Hp->Prop}{QB:Bool->Hp->Prop}{X:Str->Hp->Prop}
theorem aS2{x:Str}{pos:Pos}{i:Str}(hf:Gs g x i)(hk:sc.names.lookup x=some .globalImplicit)(hd:(x==("__debug__" : Str))=false)(h:Q (.str i) Y):Ev g ⟨sc,vs,d,q⟩ (.Name x pos) Z Y Q X:=
 by refine c6 hf λt ht=>?_;exact ap4 hk ht (λz_=>.str i t) h hd
theorem bW9{x:Str}{np apos pos:Pos}{e:Expr}{D:List (Str×Int)}(hf:Gd g x D)(hk:sc.names.lookup x=some .globalImplicit)(hd:(x==("__debug__" : Str))=false)
  (h:Ev g ⟨sc,vs,d,q⟩ e Z Y (λv zs=>∃ y,v=.str y/\Q (ax9 (D.lookup y)) zs) X)
  (hline:(apos.endLine==pos.line)=true) (hbase:∀ env,attributeBase (.Name x np) (Str.ofString "get") env (eval (.Name x np) env)=eval (.Name x np) env)
  (hfew:∀ env,((backTo pos (starEach [e] env)).all (λx=>!x.1)&&(backToKw pos (keywordEach [] env)).all (λx=>x.1.isSome)
   && decide ([e].length+([]:List Keyword).length+(if ([]:List Keyword).isEmpty then 0 else 1)<30))=true) (he:∀ env,starEach [e] env=[(false,eval e env)]) :
  Ev g ⟨sc,vs,d,q⟩ (.Call (.Attribute (.Name x np) (Str.ofString "get") apos) [e] [] pos) Z Y Q X:=(λA env s I=>by
 refine a9 hf λdd hm T=>?_
 have T':StrTab g.prog g.w s.heap dd (D.map λp=>(.str p.1,.int p.2)):=T.keep I.sim.stays
 have hty:s.TypeIs (.ref dd) "dict":=by obtain⟨lo,kvs,hd,hf⟩:=T';exact hd.typeIs
 have hpl:∃ ob,s.heap.get? dd=some ob/\ob.dict=none:=by
  obtain⟨lo,kvs,hd,hf⟩:=T';refine l6 hd.mapOf λo es ep ho hc z_=>?_
  exact⟨o,ho,hc.2.1⟩
 refine wpAny_Call_method (hbase env) (hfew env) hline PySem.F.plainAttrs_dict PySem.F.slot_dict_get PySem.F.type_dict_get
  (Calls.Name_function_global I.fn (by show env.scope.names.lookup x=_;rw[I.scope];exact hk) (aW (by rw[I.glob];exact g.ns.keeps I.sim.stays) hm ⟨hty,λb e=>by cases e;exact hpl,?_⟩) hd)
 have hEvs:Evs g ⟨sc,vs,d,q⟩ [e] Z Y (λvs zs=>∃ v,vs=[v]/\∃ y,v=.str y/\Q (ax9 (D.lookup y)) zs) X:=
  Q1 (h.mono λv zs hv=>U7 ⟨v,rfl,hv⟩) (by intros;rfl) he
 refine c5 (hEvs A env s pos I) λhw hp=>?_
 refine bh hp (x9 hp (wpAny_mono hw (λvs sv p0=>?_) λz_ z_ p=>p))
 refine p0 _ ?_;clear p0;rintro Vs zs rs I1 st1 hq;obtain⟨v,rfl,y,rfl,hQ⟩:=hq;refine a9 rs.one λz_ q1_ r0=>?_;subst q1_
 refine c6 r0.ofStr λz_ q1_=>?_;subst q1_
 have T₁:StrTab g.prog g.w sv.heap dd (D.map λp=>(.str p.1,.int p.2)):=T.keep I1.sim.stays
 refine call_get1_strTab T₁ λv hv=>?_
 rw[aY5] at hv;refine l9.step st1 ?_;cases hl:D.lookup y with
 | none=>
  rw[hl] at hv hQ;obtain rfl:=PyProof.V.Flat.none_inv hv;exact(λz_ k_=>k_ .none zs .none (I1.keep Step.toks I1.sim) Step.toks hQ)
 | some i=>
  rw[hl] at hv hQ;refine c6 (PyProof.V.Flat.int_inv hv) λt q1_=>?_;subst q1_
  exact(λz_ k_=>k_ (.int i) zs (.int _ _) (I1.keep Step.toks I1.sim) Step.toks hQ))
set_option tactic.hygienic true in
theorem ce8{a b:Int}(h:Q (.int (min a b)) Y):Cl g ⟨sc,vs,d,true⟩ (.builtin "min") [.int a,.int b] Z Y Q X:=(λA env s us I r=>by
 refine g7 r.two λ_ _ q1_ r0 r'=>?_;subst q1_
 refine c6 r0.ofInt λ_ q1_=>?_;subst q1_;refine c6 r'.ofInt λ_ q1_=>?_;subst q1_
 refine min_two_ints (I.quiet rfl) λh' tk hk=>?_
 ·have st:Step (inF A) f2 Y Y s {s with heap:=h',toks:=tk}:=Step.grow hk
  have e:min a b=if b<a then b else a:=by split<;>lia
  rw[e] at h
  split
  ·rename_i hc;rw[if_pos hc] at h;exact(λ_ k_=>k_ _ Y (.int _ _) (I.keep st (I.sim.grow hk)) st h)
  ·rename_i hc;rw[if_neg hc] at h;exact(λ_ k_=>k_ _ Y (.int _ _) (I.keep st (I.sim.grow hk)) st h))
set_option tactic.hygienic true in
theorem bV7{a b:Int}(h:Q (.int (max a b)) Y):Cl g ⟨sc,vs,d,true⟩ (.builtin "max") [.int a,.int b] Z Y Q X:=(λA env s us I r=>by
 refine g7 r.two λ_ _ q1_ r0 r'=>?_;subst q1_
 refine c6 r0.ofInt λ_ q1_=>?_;subst q1_;refine c6 r'.ofInt λ_ q1_=>?_;subst q1_
 refine max_two_ints (I.quiet rfl) λh' tk hk=>?_
 ·have st:Step (inF A) f2 Y Y s {s with heap:=h',toks:=tk}:=Step.grow hk
  have e:max a b=if b > a then b else a:=by split<;>lia
  rw[e] at h
  split
  ·rename_i hc;rw[if_pos hc] at h;exact(λ_ k_=>k_ _ Y (.int _ _) (I.keep st (I.sim.grow hk)) st h)
  ·rename_i hc;rw[if_neg hc] at h;exact(λ_ k_=>k_ _ Y (.int _ _) (I.keep st (I.sim.grow hk)) st h))
theorem cd8{x:Str}{np pos:Pos}{e:Expr}(hb:Bi g x (.type "list"))(hk:sc.names.lookup x=some .globalImplicit)(hd:(x==("__debug__" : Str))=false)
  (h:Rng g ⟨sc,vs,d,true⟩ e Z Y (λa b c zs=>∃ n:Nat,a=0/\c=1/\b=n/\n<=10000/\∀ l,zs l=none->Q (.ref l) (upd zs l (.lst (k8 0 1 n)))) X)
  (he:∀ env,starEach [e] env=[(false,eval e env)]):Ev g ⟨sc,vs,d,true⟩ (.Call (.Name x np) [e] [] pos) Z Y Q X:=(λA env s I=>by
 refine wpAny_Call_ofName (Calls.Name_function_global I.fn (by show env.scope.names.lookup x=_;rw[I.scope];exact hk) (aK (by rw[I.glob];exact g.ns.keeps I.sim.stays) hb.1 (by rw[I.bltn];exact g.nb.keeps I.sim.stays) hb.2 ?_) hd)
 have hp:(backTo pos (starEach [e] env)).any (·.1)=false:=by rw[he];rfl
 refine callWith_excType hp (x9 hp (wpAny_items_cons (wpAny_mono (h A env s I) (λv sv p0=>wpAny_items_nil ?_) λz_ z_ p=>p) (he env)))
 refine p0 _ ?_;clear p0;rintro r a b c t u v' zs hx hr I1 st1 ⟨n,ha,hc,hb,hn,hQ⟩;subst hx ha hc hb;refine call_list_range (I1.quiet rfl) hr (ap2 (by unfold j4;lia) (by unfold j4;lia)) (bP5 n) (al hn (by decide)) λh' tk acc c' hkeep hat hit=>?_
 refine l9.step st1 (X2 (s':={sv with heap:=h',toks:=tk}) I1 ⟨hkeep,rfl,rfl⟩ (u6 _) hat ?_ hQ)
 have hlen:=hit.1;have:∀ (k:Nat) (l:List Value) (m:Nat),(∀ i v,l[i]?=some v->∃ t,v=Value.int (((m+i:Nat):Int)) t)->l.length=k->d5 h' l ((List.range k).map fun(i:Nat)=>V.int (((m+i:Nat):Int))):=by
  intro k;induction k with
  | zero=>intro l m _ hl;obtain rfl:=bf.mp hl;exact .nil
  | succ k ih=>
   intro l m hi hl;cases l with
   | nil=>cases hl
   | cons v l=>
    refine c6 (hi 0 v rfl) λt q1_=>?_;subst q1_
    rw[List.range_succ_eq_map,cn,aZ];refine .cons (.int _ t) ?_;have:=ih l (m+1) (λi v hv=>by
     refine c6 (hi (i+1) v hv) λt e=>?_
     exact⟨t,by rw[e];congr 2;lia⟩) (by simpa using hl)
    have e:((λi=>V.int (((m+i:Nat):Int)))∘Nat.succ)=λi=>V.int (((m+1+i:Nat):Int)):=by
     funext i;simp only[Function.comp];congr 2;lia
    rw[e];exact this
 have h3:=this n acc.toList 0 (λi v hv=>by
  obtain⟨t,e⟩:=hit.2 i v (by rw[<- av];exact hv)
  exact⟨t,by rw[e];congr 1;lia⟩) (by rw[ao];exact hlen)
 unfold k8;have e:(fun(i:Nat)=>V.int (0+(i:Int)*1))=λi=>V.int (((0+i:Nat):Int)):=by funext i;congr 1;lia
 rw[e];exact h3)
end
noncomputable def ak3:Expr->Bool:=fun | .Starred ..=>true | _=>false
theorem fm2{α β:Type}{f:α->Option β}{a b:α}{x y:β}(h1:f a=some x)(h2:f b=some y):[a,b].filterMap f=[x,y]:=by
 rw[dD h1,dD h2];rfl
theorem bp6{env:Env}{x y:Str}{px py tpos p:Pos}{k k':Nat}{a b:Expr}(hb:env.blockKind=.function)(hx:env.kindOf x=some .local)(hy:env.kindOf y=some .local)(hl:(py.line==px.line)=true)(hxy:([x,y].eraseDups.length != 2)=false)
  (hs:([a,b].any ak3)=false) (hf:[a,b].all (foldedForSure 8)=false) (hc:[a,b].all (constantsAlone 8)=false) :
  swappedStores [.Tuple [.Name x px,.Name y py] k tpos] (.Tuple [a,b] k' p) env=pure (some [x,y]):=by
 have e1:(if (env.kindOf x==some .local&&px.line==px.line)=true then some x else none)=some x:=if_pos (by rw[hx];simp)
 have e2:(if (env.kindOf y==some .local&&py.line==px.line)=true then some y else none)=some y:=if_pos (by rw[hy,hl];rfl)
 unfold swappedStores;refine(if_neg (by rw[hb];exact ac)).trans ?_
 refine(if_neg (λh=>ac (hs.symm.trans h))).trans ?_
 have key:∀ (names:List Str) (U:Sem (Option (List Str))),names=[x,y]->(if (names.length != 2||names.eraseDups.length != names.length)=true then(pure none:Sem (Option (List Str))) else if [a,b].all (foldedForSure 8)=true then pure none else if [a,b].all (constantsAlone 8)=true then U else pure (some names))=pure (some [x,y]):=by
  rintro _ U rfl;exact(if_neg λh=>ac (hxy.symm.trans h)).trans ((if_neg λh=>ac (hf.symm.trans h)).trans (if_neg λh=>ac (hc.symm.trans h)))
 exact key _ _ (fm2 e1 e2)
section
variable{g:G}{sc:Scope}{vs:List Str}{d:Nat}{q:Bool}{F:Blk}{Z:List (Option V)}{Y:Hp}{Q:V->Hp->Prop}{QB:Bool->Hp->Prop}{X:Str->Hp->Prop}
theorem bH2{i:Int}(h:Q (.bool true) Y):Op2 g F (compareOp .NotEq) .none (.int i) Z Y Q X:=ab4 rfl rfl (ay _) h
theorem aQ4{i:Int}(h:Q (.bool false) Y):Op2 g F (compareOp .Eq) .none (.int i) Z Y Q X:=ah3 rfl rfl (ay _) h
theorem cg9{a b:Bool}(h:Q (.bool (a != b)) Y):Op2 g F (compareOp .NotEq) (.bool a) (.bool b) Z Y Q X:=ab4 rfl rfl (ay _) h
theorem bp5{a b:Bool}(h:Q (.bool (a==b)) Y):Op2 g F (compareOp .Eq) (.bool a) (.bool b) Z Y Q X:=ah3 rfl rfl (ay _) h
end
noncomputable def ai6(P:Params)(p:Str×Nat×Int×Nat):DictEntry:=⟨PyData.keyHash P p.1,.str p.1 p.2.1,.int p.2.2.1 p.2.2.2⟩
theorem bJ9{prog:Program}{w:World}{h:Heap}{d n:Nat}(l:List (Str×Nat×Int×Nat))(hn:(l.map (·.1)).Nodup)(hd:(d==sysModules)=false)(ho:h.get? d=some {cls:=.type "dict",data:=.dict (l.map (ai6 w.params)).toArray n}) :
  StrTab prog w h d ((l.map λp=>(p.1,p.2.2.1)).map λp=>(PyData.str p.1,PyData.int p.2)):=by
 refine TabAt.ofObj (kvs:=l.map λp=>(p.1,Value.int p.2.2.1 p.2.2.2)) hd ho ⟨_,_,⟨rfl,rfl,rfl⟩,rfl,?_,?_,?_⟩ ?_
 ·intro e he
  simp only[List.mem_toArray,ai] at he
  refine a9 he λp z_ q1_=>?_;try clear he;subst q1_
  exact⟨p.1,by simp[PySem.strKind,Value.isStrOf,ai6],rfl⟩
 ·rw[eN]
  clear ho hn;induction l with
  | nil=>exact .nil
  | cons p l ih=>exact .cons (by simp[PySem.strKind,Value.isStrOf,ai6]) rfl ih
 ·rw[aZ];exact hn
 ·clear ho hn
  induction l with
  | nil=>exact .nil
  | cons p l ih=>exact .cons (PyProof.V.Flat.int _ _) ih
theorem C8{h:Heap}{a:Addr}{m:Str->Option Value}{o:Obj}{es:Array DictEntry}{ep:Nat}(hn:h.Ns a m)(ho:h.get? a=some o)(hd:o.data=.dict es ep)(x:Str):m x=nsFind es x:=by
 refine T3 hn λo' es' ep' ho' hd' z_ hf=>?_
 rw[ho] at ho';replace ho':=i5 ho';subst ho';rw[hd] at hd';cases hd';exact(hf x).symm
theorem d5.erase{h:Heap}{vs:List Value}{l:List V}(i:Nat)(r:d5 h vs l):d5 h (vs.eraseIdx i) (l.eraseIdx i):=by
 induction l generalizing vs i with
 | nil=>rw[r.ofNil];exact .nil
 | cons y l ih=>
  refine g7 r.ofCons λu us q1_ r1 r2=>?_;subst q1_
  cases i with
  | zero=>exact r2
  | succ i=>exact .cons r1 (ih i r2)
section
variable{g:G}{F:Blk}{Z:List (Option V)}{Y:Hp}{Q:V->Hp->Prop}{X:Str->Hp->Prop}
theorem ch8{A env s}{a:Addr}{l l':List V}{vs:Array Value}{n:Nat}{f:Array Value->Array Value}{fr own:Addr->Prop}{tk:Nat}(I:Inv g F A env Z Y s)(hY:Y a=some (.lst l))(ho:s.heap.get? a=some {cls:=.type "list",data:=.seq vs n})
  (r:d5 s.heap (f vs).toList l'):Inv g F A env Z (upd Y a (.lst l')) {s with heap:=s.heap.update a (bj f),toks:=tk}/\Step fr own Y (upd Y a (.lst l')) s {s with heap:=s.heap.update a (bj f),toks:=tk}:=by
 have hs:Heap.SameBut a s.heap (s.heap.update a (bj f)):=Heap.SameBut.update ..;have hp:(s.heap.update a (bj f)).PlainList a (f vs):=⟨_,bo _ ho rfl⟩;have tu:=U3 hs ⟨n,ho⟩;obtain⟨I',st⟩:=af1 (own:=own) (tk:=tk) I ⟨_,hY⟩ hp (r.mono tu) hs ⟨vs,n,ho⟩;exact⟨I',st⟩
theorem bU1{a:Addr}{l:List V}{k:Int}{x:V}(hY:Y a=some (.lst l))(hz:l.length<=10000)(h0:0<=k)(hk:k<l.length)(hx:l[k.toNat]?=some x)(h:Q x (upd Y a (.lst (l.eraseIdx k.toNat)))):Cl g F (.builtin "list.pop") [.ref a,.int k] Z Y Q X:=(λA env s us I r=>by
 refine g7 r.two λz_ z_ q1_ r0 r'=>?_;subst q1_
 obtain rfl:=r0.ofRef;refine c6 r'.ofInt λz_ q1_=>?_;subst q1_
 obtain⟨vs,⟨n,ho⟩,rl⟩:=(I.sim.objs a _ hY).1;have e:vs.size=l.length:=by rw[<- rl.length,ao]
 refine a9 (rl.get hx) λv hv rv=>?_
 have hv':vs[k.toNat]?=some v:=by rw[<- av];exact hv
 refine call_meets PySem.F.slot_list_pop ⟨_,ho,rfl⟩ PySem.F.entry_list_pop (PySem.F.args_list_pop_2 _ _) (MeetsSeq.list_pop_at a vs n k _ k.toNat v (by simp[Builtin.List.listFitsIndex];lia) (by rw[e];exact ag8 h0 hk) hv' (by rw[e];exact al hz (by decide))) ⟨ho,?_⟩
 obtain⟨I',st⟩:=ch8 (own:=f2) (tk:=s.toks) (f:=λxs=>xs.eraseIdxIfInBounds k.toNat) (l':=l.eraseIdx k.toNat) I hY ho (by
  have:(vs.eraseIdxIfInBounds k.toNat).toList=vs.toList.eraseIdx k.toNat:=by simp
  rw[this];exact rl.erase _)
 exact(λz_ k_=>k_ x _ (rv.mono st.tups) I' st h))
theorem aw4{h:Heap}{vs:Array Value}{l:List V}(r:d5 h vs.toList l):∀ (n:Nat) (acc:Array Value) (k:List V),d5 h acc.toList k->d5 h (eH (λx y=>x++y) acc (List.replicate n vs)).toList (k++(List.replicate n l).flatten)
 | 0,acc,k,hk=>by simpa using hk
 | n+1,acc,k,hk=>by
  rw[eO,bk,eO,List.flatten_cons,<- aF];exact aw4 r n _ _ (by rw[Array.toList_append];exact hk.append r)
set_option tactic.hygienic true in
theorem bf5{a:Addr}{l:List V}{n:Int}(hY:Y a=some (.lst l))(h0:0<=n)(hz:l.length*n.toNat<=10000)(hn:n<=10000)(h:∀ b,Y b=none->Q (.ref b) (upd Y b (.lst (List.replicate n.toNat l).flatten))):Op2 g F (binaryOp .Mult) (.ref a) (.int n) Z Y Q X:=(λA env s x y I rx ry=>by
 obtain rfl:=rx.ofRef;refine c6 ry.ofInt λu q1_=>?_;subst q1_
 obtain⟨vs,⟨k,ho⟩,rl⟩:=(I.sim.objs a _ hY).1;have e:vs.size=l.length:=by rw[<- rl.length,ao]
 have hz':vs.size*n.toNat<=10000:=by rw[e];exact hz
 refine wpAny_binaryOp_repeat_ref (T:="list") (U:="int") (by decide) ⟨_,ho,rfl⟩ (λs'=>typeIs_int s' n u) noFill_list_mul PySem.F.fills_int_mul PySem.F.slot_int_rmul repeat_list PySem.F.slot_int_index.lookup
  (call_meets PySem.F.slot_int_rmul (typeIs_int s n u) PySem.F.entry_int_rmul (PySem.F.args_int_rmul_2 _ _) (int___rmul___int_list n u a vs k)
   ⟨ho,rfl,⟨_,ho,rfl⟩,call_meets PySem.F.slot_list_mul ⟨_,ho,rfl⟩ PySem.F.entry_list_mul (PySem.F.args_list_mul_2 _ _)
    (AutoListH.list___mul___list_int_3 a vs k n u (by simp[Builtin.List.listFitsIndex];lia) (by lia) (by simp[Builtin.List.listTooLong,sizeLine];lia))
    ⟨ho,?_⟩⟩)
 have st:=Step.push (fr:=inF A) (own:=f2) (Y:=Y) (s:=s) (o:={cls:=.type "list",data:=.seq (eH (λx1 x2=>x1++x2) #[] (List.replicate (if vs.isEmpty=true then 0 else n.toNat) vs))})
 refine X2 (s':={s with heap:=s.heap.push {cls:=.type "list",data:=.seq (eH (λx1 x2=>x1++x2) #[] (List.replicate (if vs.isEmpty=true then 0 else n.toNat) vs))}}) I ⟨λb o e=>ag _ e,rfl,rfl⟩ (u6 _) (an _ rfl) ?_ h
 have:d5 s.heap (eH (λx1 x2=>x1++x2) #[] (List.replicate (if vs.isEmpty=true then 0 else n.toNat) vs)).toList (List.replicate n.toNat l).flatten:=by
  split
  ·rename_i hemp
   have:vs=#[]:=by simpa using hemp
   subst this;obtain rfl:l=[]:=by cases l with | nil=>rfl | cons x l=>refine j6 rl.ofCons λ_ _ e _=>?_;cases e
   rw[show(List.replicate n.toNat ([]:List V)).flatten=[] by simp]
   exact .nil
  ·have:=aw4 rl n.toNat #[] [] .nil
   simpa using this
 exact this.mono st.tups)
end
section
variable{K:Type}{h:Heap}{kvs:List (K×Value)}{L:List (K×V)}
theorem KVs.nil:KVs (K:=K) h [] []:=⟨rfl,.nil⟩
theorem KVs.cons{k:K}{v:Value}{x:V}(r:Rep h v x)(s:KVs h kvs L):KVs h ((k,v)::kvs) ((k,x)::L):=⟨congrArg (k :: ·) s.1,.cons r s.2⟩
theorem KVs.ofNil(s:KVs h kvs []):kvs=[]:=List.map_eq_nil_iff.mp s.1
theorem KVs.ofCons{k:K}{x:V}(s:KVs h kvs ((k,x)::L)):∃ v us,kvs=(k,v)::us/\Rep h v x/\KVs h us L:=by
 cases kvs with
 | nil=>cases s.1
 | cons p us=>
  obtain⟨e1,e2⟩:=List.cons.inj s.1;obtain⟨k',v⟩:=p;obtain⟨v',us',e,r1,r2⟩:=s.2.ofCons;obtain⟨e3,e4⟩:=List.cons.inj e;subst e1 e3 e4;exact⟨v,us,rfl,r1,e2,r2⟩
variable[DecidableEq K]
noncomputable def B7(L:List (K×V))(k:K)(v:V):List (K×V):=if L.any (λp=>p.1=k) then L.map (λp=>if p.1=k then(p.1,v) else p) else L++[(k,v)]
noncomputable def j9(L:List (K×V))(k:K):Option V:=(L.find? λp=>p.1=k).map (·.2)
inductive Seen(h:Heap):Option Value->Option V->Prop
 | no:Seen h none none
 | yes {v:Value} {x:V} (r:Rep h v x):Seen h (some v) (some x)
theorem KVs.seen(k:K)(s:KVs h kvs L):Seen h (valueAt kvs k) (j9 L k):=by
 induction L generalizing kvs with
 | nil=>rw[s.ofNil];exact .no
 | cons p L ih=>
  obtain⟨k',x⟩:=p;obtain⟨v,us,rfl,r,s⟩:=s.ofCons;have h2:=ih s;unfold valueAt j9 at h2 ⊢;rw[cx,cx];by_cases e:k'=k
  ·rw[show decide ((k',v).1=k)=true from decide_eq_true e];exact .yes r
  ·rw[show decide ((k',v).1=k)=false from decide_eq_false e];exact h2
theorem aG2{α:Type}(l:List (K×α))(k:K):l.any (λp=>p.1=k)=(l.map (·.1)).any (λq=>q=k):=by rw[List.any_map];rfl
theorem KVs.put{k:K}{v:Value}{x:V}(s:KVs h kvs L)(r:Rep h v x):KVs h (stored kvs k v) (B7 L k x):=by
 unfold stored B7;rw[aG2 kvs,aG2 L,s.1];cases(L.map (·.1)).any (λq=>q=k) with
 | true=>
  rw[if_pos rfl,if_pos rfl];induction L generalizing kvs with
  | nil=>rw[s.ofNil];exact .nil
  | cons p L ih=>
   obtain⟨k',y⟩:=p;obtain⟨u,us,rfl,r1,s⟩:=s.ofCons;rw[cn,cn];by_cases e:k'=k
   ·rw[if_pos e,if_pos e];exact .cons r (ih s)
   ·rw[if_neg e,if_neg e];exact .cons r1 (ih s)
 | false=>
  rw[if_neg ac,if_neg ac];refine⟨?_,?_⟩
  ·rw[ak,ak,s.1];rfl
  ·rw[ak,ak];exact s.2.append (.cons r .nil)
theorem KVs.len(s:KVs h kvs L):kvs.length=L.length:=by
 have:=congrArg List.length s.1;rw[aa,aa] at this;exact this
end
structure Kd(g:G)(K:Type)[DecidableEq K] where
 knd:KeyKind g.prog g.w K
 key:K->V
 ob:List (K×V)->AObj
 rep:∀ h v k,Rep h v (key k)->knd.is k v=true
 orep:∀ h a l,u8 g h a (ob l)=n7 knd h a l
noncomputable def kdI(g:G):Kd g Int where
 knd:=intKind g.prog g.w
 key:=.int
 ob:=.di
 rep:=λh v k r=>by refine c6 r.ofInt λt q1_=>?_;subst q1_;exact decide_eq_true rfl
 orep:=λz_ z_ z_=>rfl
noncomputable def kdS(g:G):Kd g Str where
 knd:=strKind g.prog g.w
 key:=.str
 ob:=.ds
 rep:=λh v k r=>by refine c6 r.ofStr λt q1_=>?_;subst q1_;exact beq_self_eq_true k
 orep:=λz_ z_ z_=>rfl
section
variable{g:G}{F:Blk}{Z:List (Option V)}{Y:Hp}{Q:V->Hp->Prop}{X:Str->Hp->Prop}{K:Type}[DecidableEq K](D:Kd g K)
theorem Inv.dict{A env s}{a:Addr}{L:List (K×V)}(I:Inv g F A env Z Y s)(hY:Y a=some (D.ob L)):n7 D.knd s.heap a L:=by
 have:=(I.sim.objs a _ hY).1;rw[D.orep] at this;exact this
theorem ap0{h:Heap}{o:Option Value}{x:Option V}(s:Seen h o x):o.isSome=x.isSome:=by cases s<;>rfl
theorem bm8{a:Addr}{L:List (K×V)}{k:K}(hY:Y a=some (D.ob L))(h:Q (.bool (j9 L k).isSome) Y):Op2 g F (compareOp .In) (D.key k) (.ref a) Z Y Q X:=(λA env s x y I rx ry=>by
 obtain rfl:=ry.ofRef;refine(I.dict D hY) _ ?_;rintro kvs hd hv hs;exact wpAny_in_of (D.rep _ _ _ rx) hs hd.mapOf (by rw[ap0 (hv.seen k)];exact m7 I h))
theorem bv8{a:Addr}{L:List (K×V)}{k:K}(hY:Y a=some (D.ob L))(h:Q (.bool (!(j9 L k).isSome)) Y):Op2 g F (compareOp .NotIn) (D.key k) (.ref a) Z Y Q X:=(λA env s x y I rx ry=>by
 obtain rfl:=ry.ofRef;refine(I.dict D hY) _ ?_;rintro kvs hd hv hs;exact wpAny_notIn_of (D.rep _ _ _ rx) hs hd.mapOf (by rw[ap0 (hv.seen k)];exact m7 I h))
theorem aN2{a:Addr}{L:List (K×V)}{k:K}{x:V}(hY:Y a=some (D.ob L))(hx:j9 L k=some x)(h:Q x Y):Itm g F (.ref a) (D.key k) Z Y Q X:=(λA env s v y I rv ry=>by
 obtain rfl:=rv.ofRef;refine(I.dict D hY) _ ?_;rintro kvs hd hv hs;have q:=hv.seen k;rw[hx] at q;generalize e:valueAt kvs k=ov at q;cases q with
 | yes r=>exact⟨"dict",_,hd.typeIs,slot_dict_getitem.lookup,wpAny_getItem_of (D.rep _ _ _ ry) hd.mapOf e (λz_ k_=>k_ x Y r (I.keep Step.toks I.sim) Step.toks h)⟩)
theorem ae4{h h':Heap}{a:Addr}{L:List (K×V)}(hs:Heap.SameBut a h h')(hd:n7 D.knd h a L):l8 h h':=λb ws n e=>by
 refine p9 hd.has λes ep ho=>?_
 exact(hs.2 b (λq=>by rw[q,ho] at e;simp at e)).trans e
theorem n7.isD{knd:KeyKind g.prog g.w K}{h:Heap}{a:Addr}{l:List (K×V)}(x:n7 knd h a l):∃ ob,h.get? a=some ob/\IsD ob:=by
 refine p9 x.has λes ep ho=>?_
 exact⟨_,ho,es,ep,rfl⟩
theorem aG5{b:Addr}{L:List (K×V)}{k:K}{v:V}{P:Hp->Prop}(hY:Y b=some (D.ob L))(hz:L.length<=sizeLine)(hQ:P (upd Y b (D.ob (B7 L k v)))):StI g F (.ref b) (D.key k) v Z Y P:=(λA env s x y z E I rx ry rz=>by
 obtain rfl:=rx.ofRef;have hdr:=I.dict D hY;refine(id hdr) _ ?_;rintro kvs hd hv hsm;refine wpAny_setItem_pairs (D.rep _ _ _ ry) hd (λh' hd' hs'=>?_) (by rw[hv.len];exact hz)
 have tu:=ae4 D hs' hdr;have dr:n7 D.knd h' b (B7 L k v):=(λz_ k_=>k_ _ hd' ((hv.mono tu).put (rz.mono tu)) hsm)
 obtain⟨I4,st4⟩:=T4 (fr:=inF A) (own:=i9 env) (tk:=s.toks+1) I hY (by rw[D.orep];exact dr) hs' tu λz_ z_ z_=>dr.isD
 exact⟨_,I4,st4,hQ⟩)
theorem Y7{A env s}(I:Inv g F A env Z Y s):(s.heap.objs.size==sysModules)=false:=by
 refine x8 (g.ns.keeps I.sim.stays) λo es ep ho z_=>?_
 have h3:3<s.heap.objs.size:=aE ho;show(s.heap.objs.size==1)=false;rw[beq_eq_false_iff_ne];exact λe=>absurd (e▸h3) (by decide)
theorem ai0{h:Heap}(hs:(h.objs.size==sysModules)=false):n7 D.knd (h.push {cls:=.type "dict",data:=.dict #[]}) h.objs.size []:=(λz_ k_=>k_ [] (Heap.DictOf.new _) .nil hs)
theorem ak2{s:Shared}{o:Obj}:Ext s {s with heap:=s.heap.push o}:=⟨λb o e=>ag _ e,rfl,rfl⟩
theorem az5{pos:Pos}(h:∀ a,Y a=none->Q (.ref a) (upd Y a (D.ob []))):Ev g F (.Dict [] [] pos) Z Y Q X:=(λA env s I=>
 wpAny_Dict_empty (P4 I ak2 (u6 _) (by rw[D.orep];exact ai0 D (Y7 I)) h))
theorem k9.unframe{A env s sv zs}{d:Addr}{o:AObj}{e:Value}{s':Shared}(st:Step (inF A) f2 Y zs s sv)(p:k9 g F A env Z zs sv (λv Y2=>∃ Y',Y2=upd Y' d o/\Y' d=none/\X v Y') e s'):k9 g F A env Z Y s X e s':=by
 refine p _ ?_;clear p;rintro x Y2 f i y ⟨Y',rfl,hn,q⟩;exact(λz_ k_=>k_ x Y' ((f.step st).sub (Sub.upd hn)) (i.sub (Sub.upd hn)) ((st.trans y).sub (Sub.upd hn)) q)
theorem az9{ke ve:Expr}{pos:Pos}(h:Ev g F ke Z Y (λkv zs=>Ev g F ve Z zs (λv Y2=>∃ k,kv=D.key k/\∀ a,Y2 a=none->Q (.ref a) (upd Y2 a (D.ob [(k,v)]))) X) X):Ev g F (.Dict [some ke] [ve] pos) Z Y Q X:=(λA env s I=>by
 refine wpAny_Dict_pairs (knd:=D.knd) (pairs:=[(eval ke env,do let y <- eval ve env;standAt pos;pure y)]) rfl (by simp) (by simp) ?_
 refine(P4 (Q:=λv zs=>∃ a,v=.ref a/\zs=upd Y a (D.ob [])/\Y a=none) (o:=D.ob []) I (ak2 (o:={cls:=.type "dict",data:=.dict #[]})) (u6 _) (by rw[D.orep];exact ai0 D (Y7 I)) λa ha=>⟨a,rfl,rfl,ha⟩) _ ?_;rintro V zs r I1 st1 ⟨a,rfl,rfl,ha⟩
 have e0:s.heap.objs.size=a:=Value.ref.inj r.ofRef;refine evalPairs_cons (pgo ((h.frame ha) A env _ I1) (λkv s2 Vk Y2 rk sw st2 hq=>?_) λe s' p=>p.unframe st1)
 refine i8 hq λY' q1_ hn h1=>?_;try clear hq;subst q1_
 have st12:=st1.trans st2;refine wpAny_bind (pgo ((h1.frame hn) A env s2 sw) (λvv s3 Vv Y3 rv I3 st3 hq=>?_) λe s' p=>p.unframe st12)
 obtain⟨Y'',rfl,hn',k,rfl,hQ⟩:=hq;have st13:=st12.trans st3;refine wpAny_bind (wpAny_standAt (wpAny_pure (evalPairs_nil ?_)));rw[e0];have hdr:=I3.dict D (d3 _ _ _);refine(id hdr) _ ?_;rintro kvs hd hv hsm;obtain rfl:=hv.ofNil;refine⟨[(k,vv)],⟨D.rep _ _ _ (rk.mono st3.tups),rfl,trivial⟩,hd,λh' hd' hs'=>?_⟩
 have tu:=ae4 D hs' hdr;have dr:n7 D.knd h' a [(k,Vv)]:=(λz_ k_=>k_ _ hd' (.cons (rv.mono tu) .nil) hsm)
 obtain⟨I4,st4⟩:=T4 (fr:=inF A) (o':=D.ob [(k,Vv)]) (own:=f2) (tk:=s3.toks+1) I3 (d3 _ _ _) (by rw[D.orep];exact dr) hs' tu λz_ z_ z_=>dr.isD
 rw[O0] at I4 st4;exact(λz_ k_=>k_ (.ref a) _ (.ref a) I4 (st13.trans st4) (hQ a hn')))
end
section
variable{g:G}{F:Blk}{sc:Scope}{vs:List Str}{d:Nat}{q:Bool}{Z:List (Option V)}{Y:Hp}{Q:V->Hp->Prop}{X:Str->Hp->Prop}
theorem bA7{h:Heap}{ns:List Int}:∀ {l:List Value},d5 h l (ns.map .int)->∃ ps:List (Int×Tok),l=ps.map (λp=>.int p.1 p.2)/\ps.map (·.1)=ns:=by
 induction ns with
 | nil=>intro l r;rw[r.ofNil];exact⟨[],rfl,rfl⟩
 | cons n ns ih=>
  intro l r;refine g7 r.ofCons λv us q1_ r1 r2=>?_;subst q1_
  refine c6 r1.ofInt λt q1_=>?_;subst q1_
  refine a9 (ih r2) λps q1_ q2_=>?_;subst q1_;subst q2_
  exact⟨(n,t)::ps,rfl,rfl⟩
end
section
variable{g:G}{F:Blk}{Z:List (Option V)}{Y:Hp}{Q:V->Hp->Prop}{X:Str->Hp->Prop}
theorem bN6{K:Type}[DecidableEq K](D:Kd g K){o e z:Expr}{apos pos:Pos}
  (h:Ev g F o Z Y (λv zs=>∃ a L,v=.ref a/\zs a=some (D.ob L)/\Ev g F e Z zs (λu Y2=>Ev g F z Z Y2 (λy Y3=>∃ k L',u=D.key k/\Y3 a=some (D.ob L')/\Q ((j9 L' k).getD y) Y3) X) X) X)
  (hline:(apos.endLine==pos.line)=true) (hbase:∀ env,attributeBase o (Str.ofString "get") env (eval o env)=eval o env)
  (hfew:∀ env,((backTo pos (starEach [e,z] env)).all (λx=>!x.1)&&(backToKw pos (keywordEach [] env)).all (λx=>x.1.isSome)
   && decide ([e,z].length+([]:List Keyword).length+(if ([]:List Keyword).isEmpty then 0 else 1)<30))=true) (he:∀ env,starEach [e,z] env=[(false,eval e env),(false,eval z env)]) :
  Ev g F (.Call (.Attribute o (Str.ofString "get") apos) [e,z] [] pos) Z Y Q X:=(λA env s I=>by
 refine wpAny_Call_method (hbase env) (hfew env) hline PySem.F.plainAttrs_dict PySem.F.slot_dict_get PySem.F.type_dict_get (pgo (h A env s I) (λov sv V zs r I1 st1 hpq=>?_) λz_ z_ p=>p)
 refine g7 hpq λa L hv hY h1=>?_
 subst hv;obtain rfl:=r.ofRef;refine p9 ((I1.dict D hY).has) λes ep ho=>?_
 refine⟨⟨_,ho,rfl⟩,λb e=>by cases e;exact⟨_,ho,rfl⟩,?_⟩
 rw[he env];refine method2_meetsIn PySem.F.slot_dict_get PySem.F.entry_dict_get ?_;rw[if_neg ac,if_neg ac];refine pgo (h1 A env sv I1) (λkv s2 Vk Y2 rk sw st2 hq=>?_) λz_ z_ p=>p.step st1
 have st12:=st1.trans st2;refine pgo (hq A env s2 sw) (λzv s3 Vz Y3 rz I3 st3 hq=>?_) λz_ z_ p=>p.step st12
 refine g7 hq λk L' q1_ hY2 hQ=>?_;try clear hq;subst q1_
 refine(I3.dict D hY2) _ ?_;rintro kvs hd hv hs;refine⟨hd.typeIs,PySem.F.args_dict_get_3 _ _ _,_,meets_dict_get_default D.knd a (D.rep _ _ _ (rk.mono st3.tups)) hs zv,_,hd.mapOf,?_⟩;have q:=hv.seen k;refine l9.step (st12.trans st3) ?_;generalize valueAt kvs k=ov at q ⊢;generalize j9 L' k=od at q hQ;cases q with
 | no=>exact(λz_ k_=>k_ _ Y3 rz (I3.keep Step.toks I3.sim) Step.toks hQ)
 | yes r=>exact(λz_ k_=>k_ _ Y3 r (I3.keep Step.toks I3.sim) Step.toks hQ))
theorem aQ8{es:List Expr}{k:Nat}{tp pos:Pos}{e:Expr}{Q:d6}{X:j3}(hq:F.q=true)(h:Ev g F e Z Y (λv zs=>Asg g F (.Tuple es k tp) v Z zs (λZ'=>Q .next Z' zs)) (λx zs=>X x Z zs))
  (hs:∀ env,swapsWithSole [.Tuple es k tp] e pos.line env=pure false) (hw:∀ env,swappedStores [.Tuple es k tp] e env=pure none):Ex g F (.Assign [.Tuple es k tp] e pos) Z Y Q X:=(λA env s I=>by
 refine PyProof.Rows.Assign_Tuple (wpAny_mono (h A env s I) (λv sv p=>?_) λz_ z_ p=>p.toS) (hs env) (hw env)
 refine p _ ?_;clear p;rintro V zs r I1 st1 a;exact a.run A env sv v _ _ I1 (I1.quiet hq) r λs2 Z' sw st2 q=>(λz_ k_=>k_ .next Z' zs .next sw ((st1.mono λz_ h=>h.elim).trans st2) q))
end
section
variable{g:G}{sc:Scope}{vs:List Str}{d:Nat}{q:Bool}{Z:List (Option V)}{Y:Hp}{Q:V->Hp->Prop}{X:Str->Hp->Prop}
theorem bT6{a:Addr}:AnswersAll (λs=>s.TypeIs (.ref a) "list") (.ref a) [.type "list",.type "tuple"] [true,false]:=
 ⟨Answers.of_true (by kernel_rfl) (by rw[isSubtype_type];kernel_rfl),Answers.of_false_list (by decide) (by kernel_rfl) (by rw[isSubtype_type];kernel_rfl),trivial⟩
theorem by2{a:Addr}:AnswersAll (λs=>s.TypeIs (.ref a) "tuple") (.ref a) [.type "list",.type "tuple"] [false,true]:=
 ⟨Answers.of_false_tuple (by decide) (by kernel_rfl) (by rw[isSubtype_type];kernel_rfl),Answers.of_true (by kernel_rfl) (by rw[isSubtype_type];kernel_rfl),trivial⟩
theorem bZ8{x t u:Str}{np p1 p2 tp pos:Pos}{k:Nat}{e:Expr}(hb:Bi g x (.builtin "isinstance"))(h1:Bi g t (.type "list"))(h2:Bi g u (.type "tuple"))(hk:sc.names.lookup x=some .globalImplicit)(hk1:sc.names.lookup t=some .globalImplicit)(hk2:sc.names.lookup u=some .globalImplicit)
  (h:Ev g ⟨sc,vs,d,q⟩ e Z Y (λv zs=>((∃ a l,v=.ref a/\zs a=some (.lst l))∨∃ l,v=.tup l)/\Q (.bool true) zs) X) (hd:(x==("__debug__" : Str))=false) (hd1:(t==("__debug__" : Str))=false) (hd2:(u==("__debug__" : Str))=false)
  (he:∀ env,starEach [e,.Tuple [.Name t p1,.Name u p2] k tp] env=(false,eval e env)::starEach [.Tuple [.Name t p1,.Name u p2] k tp] env):Ev g ⟨sc,vs,d,q⟩ (.Call (.Name x np) [e,.Tuple [.Name t p1,.Name u p2] k tp] [] pos) Z Y Q X:=(λA env s I=>by
 refine wpAny_Call_ofName (Calls.Name_function_global I.fn (by show env.scope.names.lookup x=_;rw[I.scope];exact hk) (aK (by rw[I.glob];exact g.ns.keeps I.sim.stays) hb.1 (by rw[I.bltn];exact g.nb.keeps I.sim.stays) hb.2 ?_) hd)
 have hp:(backTo pos (starEach [e,.Tuple [.Name t p1,.Name u p2] k tp] env)).any (·.1)=false:=by rw[he];rfl
 refine bh hp (x9 hp (wpAny_items_cons (pgo (h A env s I) (λv sv V zs r I1 st1 hQ=>?_) λz_ z_ p=>p) (he env)))
 refine wpAny_items_cons (wpAny_Tuple ?_);refine wpAny_items_cons (Calls.Name_function_global I1.fn (by show env.scope.names.lookup t=_;rw[I1.scope];exact hk1) (aK (by rw[I1.glob];exact g.ns.keeps I1.sim.stays) h1.1 (by rw[I1.bltn];exact g.nb.keeps I1.sim.stays) h1.2 ?_) hd1)
 refine wpAny_items_cons (Calls.Name_function_global I1.fn (by show env.scope.names.lookup u=_;rw[I1.scope];exact hk2) (aK (by rw[I1.glob];exact g.ns.keeps I1.sim.stays) h2.1 (by rw[I1.bltn];exact g.nb.keeps I1.sim.stays) h2.2 (wpAny_items_nil ?_)) hd2)
 refine⟨by decide,wpAny_items_nil ?_⟩
 have kk:∀ b o,sv.heap.get? b=some o->(sv.heap.push {cls:=.type "tuple",data:=.seq [Value.type "list",Value.type "tuple"].toArray}).get? b=some o:=λb o e=>ag _ e
 have st2:∀ tk,Step (inF A) f2 zs zs sv {sv with heap:=sv.heap.push {cls:=.type "tuple",data:=.seq [Value.type "list",Value.type "tuple"].toArray},toks:=tk}:=λtk=>Step.grow kk
 obtain⟨hv,hQ⟩:=hQ;rcases hv with ⟨a,l,rfl,hY⟩ | ⟨l,rfl⟩
 ·obtain rfl:=r.ofRef
  obtain⟨us,⟨n,ho⟩,-⟩:=(I1.sim.objs a _ hY).1;exact IsiPair.tupleOf bT6 ⟨_,kk _ _ ho,rfl⟩ (an _ rfl) λtk=>(λz_ k_=>k_ (.bool true) zs (.bool true) (I1.keep (st2 tk) (I1.sim.grow kk)) (st1.trans (st2 tk)) hQ)
 ·obtain⟨a,us,n,rfl,ho,-⟩:=r.ofTup
  exact IsiPair.tupleOf by2 ⟨_,kk _ _ ho,rfl⟩ (an _ rfl) λtk=>(λz_ k_=>k_ (.bool true) zs (.bool true) (I1.keep (st2 tk) (I1.sim.grow kk)) (st1.trans (st2 tk)) hQ))
end
section
variable{g:G}{F:Blk}{sc:Scope}{vs:List Str}{d:Nat}{q:Bool}{Z:List (Option V)}{Y:Hp}{Q:V->Hp->Prop}{X:Str->Hp->Prop}
theorem aX3(ns:List Int):∀ i,i<=ns.length->preSum (λi=>ns.getD i 0) i=(ns.take i).sum:=by
 intro i;induction i with
 | zero=>intro _;rfl
 | succ i ih=>
  intro h;rw[preSum,ih (by lia),aw,ae (by lia),List.take_succ_eq_append_getElem (by lia),List.sum_append]
  simp
theorem bp9{a:Addr}{ns:List Int}(hY:Y a=some (.lst (ns.map .int)))(h:Q (.int ns.sum) Y):Cl g ⟨sc,vs,d,true⟩ (.builtin "sum") [.ref a] Z Y Q X:=(λA env s us I r=>by
 refine a9 r.one λz_ q1_ r0=>?_;subst q1_
 obtain rfl:=r0.ofRef;refine a9 ((I.sim.objs a _ hY).1) λvs hp rl=>?_
 refine a9 (bA7 rl) λps e q1_=>?_;subst q1_
 have hfr:s.heap.get? s.heap.objs.size=none:=u6 _;have hne:a≠s.heap.objs.size:=λq=>by refine c6 hp λc hc=>?_;rw[q,hfr] at hc;exact f9 hc
 refine call_sum_walkAnyS (wpAny_pyIter_list hp.isList ?_);have hsz:vs.size=(ps.map (·.1)).length:=by rw[<- ao,e,aa,aa]
 refine⟨_,_,_,_,_,_,_,λi=>(ps.map (·.1)).getD i 0,rfl,(Walks.list (A:=A.in1) (I.quiet rfl) s.heap.objs.size a hne vs).toS,⟨⟨_,an _ rfl,rfl,rfl⟩,hp.isList.push _⟩,?_,λi v hv=>?_,λs' t' hm=>?_⟩
 ·intro b hb
  have hb':b=s.heap.objs.size∨b=a:=by simpa using hb
  rcases hb' with rfl | rfl
  ·exact aE (an _ rfl)
  ·refine c6 hp λc hc=>?_
   exact aE (ag _ hc)
 ·have:vs.toList[i]?=some v:=by rw[av];exact hv
  rw[e,aq] at this;refine a9 (aA.mp this) λp hp' q1_=>?_;subst q1_
  refine⟨p.2,?_⟩;show _=Value.int ((ps.map (·.1)).getD i 0) p.2
  rw[aw,aq,hp'];rfl
 ·have hk':∀ b o,s.heap.get? b=some o->s'.heap.get? b=some o:=λb o e=>hm.heap b o (λq=>by simp at q;rw[q,hfr] at e;exact f9 e) (ag _ e)
  obtain⟨hp',g',d',tk',os'⟩:=s';obtain⟨-,q1,q2,q3,-⟩:=hm;simp only at q1 q2 q3 hk'
  subst q1 q2 q3;have st:Step (inF A) f2 Y Y s {s with heap:=hp',toks:=tk'}:=Step.grow hk'
  rw[hsz,aX3 _ _ (aI _),bF];exact(λz_ k_=>k_ (.int _) Y (.int _ _) (I.keep st (I.sim.grow hk')) st h))
end
def bx5(g:G)(F:Blk)(A:Around)(env:Env)(Z:List (Option V))(Y:Hp)(s:Shared)(ks:List Str)(Q:List V->Hp->Prop)(ps:List (Value×Value))(s':Shared):Prop:=
 ∀ P_:Prop,(∀ (Vs:List V) (Y':Hp) (k:d5 s'.heap (ps.map (·.1)) (ks.map .str)) (r:d5 s'.heap (ps.map (·.2)) Vs) (i:Inv g F A env Z Y' s') (y:Step (inF A) f2 Y Y' s s') (q:Q Vs Y'),P_)->P_
def Evk(g:G)(F:Blk)(keys:List (Option Expr))(values:List Expr)(ks:List Str)(Z:List (Option V))(Y:Hp)(Q:List V->Hp->Prop)(X:Str->Hp->Prop):Prop:=
 ∀ A env s pos,Inv g F A env Z Y s->wpAny (model g.prog g.w) A (evalPairs (pairTrees keys values env pos)) (bx5 g F A env Z Y s ks Q) (k9 g F A env Z Y s X) s
section
variable{g:G}{F:Blk}{Z:List (Option V)}{Y:Hp}{X:Str->Hp->Prop}
theorem bL5{Q:List V->Hp->Prop}(h:Q [] Y):Evk g F [] [] [] Z Y Q X:=(λA env s pos I=>pairTrees_nil_walk (λz_ k_=>k_ [] Y .nil .nil I Step.refl h))
theorem bo6{Q:List V->Hp->Prop}{ke ve:Expr}{keys:List (Option Expr)}{values:List Expr}{k:Str}{ks:List Str}
  (h:Ev g F ke Z Y (λkv zs=>kv=.str k/\Ev g F ve Z zs (λv Y2=>Evk g F keys values ks Z Y2 (λl Y3=>Q (v::l) Y3) X) X) X):Evk g F (some ke::keys) (ve::values) (k::ks) Z Y Q X:=(λA env s pos I=>by
 refine pairTrees_cons_walk (pgo (h A env s I) (λkv sv Vk zs rk I1 st1 hq=>?_) λz_ z_ p=>p)
 refine c5 hq λq1_ h1=>?_;try clear hq;subst q1_
 refine pgo (h1 A env sv I1) (λv s2 V Y2 rv sw st2 h2=>?_) λz_ z_ p=>p.step st1
 refine wpAny_mono (h2 A env s2 pos sw) (λps s3 p=>?_) λz_ z_ p=>p.step (st1.trans st2)
 refine p _ ?_;clear p;rintro Vs Y3 k3 r3 I3 st3 q;exact(λz_ k_=>k_ (V::Vs) Y3 (.cons (rk.mono (st2.trans st3).tups) k3) (.cons (rv.mono st3.tups) r3) I3 ((st1.trans st2).trans st3) q))
theorem be5{h:Heap}:∀ {ps:List (Value×Value)} {ks:List Str},d5 h (ps.map (·.1)) (ks.map .str)->Carries (kdS g).knd ps (ks.zip (ps.map (·.2))):=by
 intro ps;induction ps with
 | nil=>intro ks r;cases ks with
  | nil=>trivial
  | cons k ks=>refine g7 r.ofCons λz_ z_ e z_ z_=>?_;cases e
 | cons p ps ih=>
  intro ks r;cases ks with
  | nil=>cases r.ofNil
  | cons k ks=>
   refine g7 r.ofCons λv us e r1 r2=>?_
   refine c5 (List.cons.inj e) λe1 e2=>?_
   obtain⟨a,b⟩:=p;subst e1 e2;exact⟨(kdS g).rep _ _ _ r1,rfl,ih r2⟩
theorem ce9{Q:V->Hp->Prop}{keys:List (Option Expr)}{values:List Expr}{ks:List Str}{pos:Pos}(hall:keys.all (·.isSome)=true)(hl:keys.length=values.length)(h0:keys≠[])(hlen:keys.length<=15)(hn:ks.Nodup)
  (h:Evk g F keys values ks Z Y (λl Y2=>∀ a,Y2 a=none->Q (.ref a) (upd Y2 a (.ds (ks.zip l)))) X):Ev g F (.Dict keys values pos) Z Y Q X:=(λA env s I=>by
 refine wpAny_Dict_walk (knd:=(kdS g).knd) hall hl h0 hlen ?_;refine(P4 (Q:=λv zs=>∃ a,v=.ref a/\zs=upd Y a (.ds [])/\Y a=none) (o:=.ds []) I (ak2 (o:={cls:=.type "dict",data:=.dict #[]})) (u6 _) (ai0 (kdS g) (Y7 I)) λa ha=>⟨a,rfl,rfl,ha⟩) _ ?_;rintro V zs r I1 st1 ⟨a,rfl,rfl,ha⟩
 have e0:s.heap.objs.size=a:=Value.ref.inj r.ofRef;have I₀:=I1.sub (Sub.upd (o:=.ds []) ha);refine wpAny_mono (h A env _ pos I₀) (λps s3 p=>?_) λe s3 p=>?_
 ·refine p _ ?_;clear p;rintro Vs Y' hk hr I' st hQ
  refine c5 (X3 I1 I' st ha) λI3 hn'=>?_
  have st3:=C4 (o:=.ds []) (a:=a) st;have st13:=st1.trans st3;rw[e0];have hdr:=I3.dict (kdS g) (L:=[]) (d3 _ _ _);refine(id hdr) _ ?_;rintro kvs hd hv hsm;obtain rfl:=hv.ofNil;have e1:(ps.map (·.1)).length=ks.length:=by rw[hk.length,aa]
  have e2:(ps.map (·.2)).length=Vs.length:=hr.length
  rw[aa] at e1 e2;refine⟨ks.zip (ps.map (·.2)),be5 hk,hd,λh' hd' hs'=>?_⟩
  rw[merged_nil_of_nodup _ (by rw[dE (by rw[aa];lia)];exact hn)] at hd'
  have tu:=ae4 (kdS g) hs' hdr;have dr:n7 (kdS g).knd h' a (ks.zip Vs):=(λz_ k_=>k_ _ hd' ⟨by rw[dE (by rw[aa];lia),dE (by lia)],by rw[List.map_snd_zip (by rw[aa];lia),List.map_snd_zip (by lia)];exact hr.mono tu⟩ hsm)
  obtain⟨I4,st4⟩:=T4 (fr:=inF A) (o':=.ds (ks.zip Vs)) (own:=f2) (tk:=s3.toks+ps.length) I3 (d3 _ _ _) dr hs' tu λz_ z_ z_=>dr.isD
  rw[O0] at I4 st4;exact(λz_ k_=>k_ (.ref a) _ (.ref a) I4 (st13.trans st4) (hQ a hn'))
 ·refine p _ ?_;clear p;rintro V Y' r I' st q
  refine c5 (X3 I1 I' st ha) λJ hn'=>?_
  have p2:k9 g F A env Z (upd Y a (.ds [])) _ (λv Y2=>∃ Y',Y2=upd Y' a (.ds [])/\Y' a=none/\X v Y') e s3:=(λz_ k_=>k_ V _ (r.frame (I1.sim.objs a _ (d3 _ _ _)).1) J (C4 st) ⟨Y',rfl,hn',q⟩)
  exact p2.unframe st1)
end
theorem bV9:typeLookup (.type "list") (Str.ofString "keys")=pure none:=by rw[typeLookup_type,builtinLookup_eq_fast];kernel_rfl
theorem aX2{prog:Program}{w:World}{A:Around}{E:Value->Shared->Prop}{s:Shared}{a:Addr}{xs:Array Value}{k:Nat}{Q:Option Value->Shared->Prop}
  (hx:s.heap.get? a=some {cls:=.type "list",data:=.seq xs k}) (hA:A.handled=none)
  (h:∀ h' tk,(∀ b o,s.heap.get? b=some o->h'.get? b=some o)->Q none {s with heap:=h',toks:=tk}):wpAny (model prog w) A (getAttr? (.ref a) (Str.ofString "keys")) Q E s:=by
 obtain⟨hp,g,d,tk,os⟩:=s;have hT:∀ tk',(⟨hp,g,d,tk',os⟩:Shared).TypeIs (.ref a) "list":=λz_=>⟨_,hx,rfl⟩
 have f1:=sub_AttributeError;have f3:=F.slot_list_getattribute.lookup;have f4:=F.slot_list_getattribute.bind (.ref a);have f5:=am_list_getattr_none;unfold getAttr? getAttrBy? getAttrBy
 repeat (any_goals (first | assumption | exact hT _ | ((with_reducible show wpAny _ _ (call (Value.builtin "list.__getattribute__") _ _) _ _ _);refine call_meets F.slot_list_getattribute (hT _) am_entry_list_getattribute (F.args_list_getattribute_2 _ _) (meets_getattribute_miss_list a xs k #[] (Str.ofString "keys") _ bV9 (by decide +kernel)) ⟨hx,hA,λh' tk' e hx'=>?_⟩) | wp_step))
 refine p9 hx'.there λt' u' he=>?_
 have hT2:∀ tk',(⟨h',g,d,tk',os⟩:Shared).TypeIs (.ref e) "AttributeError":=λz_=>⟨_,he,rfl⟩
 show wpAny _ _ (getattributeRaised _ _ _ _ _ _ _) _ _ _;unfold getattributeRaised
 repeat (any_goals (first | assumption | exact hT2 _ | wp_step))
 exact h _ _ hx'.keeps
theorem aD6:entryFor table "dict.update.loop" = some Builtin.«dict.update.loop»:=entryFor_of_tree (by kernel_rfl)
theorem U5:plainId "dict.update.loop" = true:=by decide +kernel
section
variable{prog:Program}{w:World}{K:Type}[DecidableEq K]{knd:KeyKind prog w K}{A:Around}{R:Result->Shared->Prop}{I:Addr}{fp wr:List Addr}{G:Array GenState->Array GenState->Prop}{n:Nat}{P:Nat->Value->Prop}{St:Nat->Shared->Prop}
theorem bR9(W:WalksS prog w A.in1 I fp wr G n P St)(D:Addr)(hDf:D∉fp)(h0:Heap)(kvs:List (K×Value))(hn:kvs.length=n)(hz:n<=10000)
  (hP:∀ i v,P i v->∃ t k x u m,v=.ref t/\kvs[i]?=some (k,x)/\h0.get? t=some {cls:=.type "tuple",data:=.seq #[u,x] m}/\knd.is k u=true/\t≠D/\t∉wr) :
  ∀ (k i:Nat) (s:Shared),n-i=k->i<=n->St i s->s.heap.DictOf knd D (merged [] (kvs.take i))->(∀ b o,b∉wr->b≠D->h0.get? b=some o->s.heap.get? b=some o)->
   (∀ s',Moved (D::wr) G s s'->s'.heap.DictOf knd D (merged [] kvs)->R (.ok (.ret .none)) s')->
   codeAny (model prog w) A (.builtin "dict.update.loop" ⟨[.ref D,.ref I,rawInt i,.none],[]⟩) R s:=by
 have hDw:D∉wr:=λh=>hDf (W.sub _ h)
 have hsub:∀ b∈wr,b∈D::wr:=λb hb=>aG _ hb
 have dkeep:∀ {s s':Shared} {l},Moved wr G s s'->s.heap.DictOf knd D l->s'.heap.DictOf knd D l:=λhm hd=>by
  refine x8 hd λo es ep ho rest=>?_
  exact⟨o,es,ep,hm.heap D _ hDw ho,rest⟩
 intro k;induction k with
 | zero=>
  intro i s hk hi hst hS h00 hR;have hin:i=n:=by lia
  subst hin;refine codeAny_builtin aD6 ?_;rw[Around.under_plainId U5 _];show wpAny _ A.in1 (pyNext (.ref I) >>= _) _ _ s;refine wpAny_bind (W.done s _ _ hst λs' hm=>?_)
  show wpAny _ A.in1 (Builtin.Dict.addKeywords D [] >>= _) _ _ s';rw[<- hn,bF] at hS;exact wpAny_bind (wpAny_pure (wpAny_pure (hR s' (hm.mono hsub) (dkeep hm hS))))
 | succ k ih=>
  intro i s hk hi hst hS h00 hR;have hlt:i<n:=by lia
  refine codeAny_builtin aD6 ?_;rw[Around.under_plainId U5 _];show wpAny _ A.in1 (pyNext (.ref I) >>= _) _ _ s;refine wpAny_bind (W.item i s _ _ hlt hst λv s' hPv hst' hm=>?_)
  refine bQ4 (hP i v hPv) λt ky x u m q1_ hkv ht hkey htD htw=>?_;subst q1_
  have hS':=dkeep hm hS;have ht':s'.heap.get? t=some {cls:=.type "tuple",data:=.seq #[u,x] m}:=hm.heap t _ htw (h00 t _ htw htD ht);refine wpAny_bind (wpAny_holding (wpAny_bind (wpAny_tryCatch ?_)));unfold Builtin.Dict.pairItems;refine wpAny_bind (wpAny_typeOf (T:="tuple") ⟨_,ht',rfl⟩ ?_);rw[if_pos (by decide)]
  refine wpAny_bind (wpAny_seqItems ht' rfl (wpAny_pure ?_));show wpAny _ _ (holding [u,x] (dictSet D u x)) _ _ _;refine wpAny_holding (wpAny_dictSet_pairs hkey hS' (λh' hd' hs'=>?_) ?_)
  ·rw[<- merged_take_succ [] kvs i (ky,x) hkv] at hd'
   refine wpAny_pure ⟨plainId_quiet U5 _,ih (i+1) _ (by lia) hlt (W.frame _ s' _ _ hst' (db _) λb hb o e=>?_) hd' (λb o h1 h2 h3=>?_) λs'' hm'' hS''=>?_⟩
   ·rw[hs'.2 b (λh:b=D=>hDf (by rw[<- h];exact hb))];exact e
   ·rw[hs'.2 b h2];exact hm.heap b o h1 (h00 b o h1 h2 h3)
   ·refine hR s'' (Moved.trans W.gtrans ((hm.mono hsub).then_heap (db _) λb o hb e=>?_) hm'') hS''
    rw[hs'.2 b (λh:b=D=>hb (by rw[h];exact be))];exact e
  ·refine al (merged_length_le _ _) ?_
   rw[bR,cy,sizeLine_eq];lia
theorem cj9{E:Value->Shared->Prop}{s:Shared}{Q:Value->Shared->Prop}{l:Addr}{xs:Array Value}{m:Nat}(hA:A.handled=none)(hx:s.heap.get? l=some {cls:=.type "list",data:=.seq xs m})(kvs:List (K×Value))(hn:kvs.length=xs.size)(hz:xs.size<=10000)
  (hP:∀ (i:Nat) (v:Value),xs[i]?=some v->∃ t k x u m,v=Value.ref t/\kvs[i]?=some (k,x)/\s.heap.get? t=some {cls:=.type "tuple",data:=.seq #[u,x] m}/\knd.is k u=true)
  (h:∀ h' tk,h'.DictOf knd s.heap.objs.size (merged [] kvs)->(∀ b o,s.heap.get? b=some o->h'.get? b=some o)->Q (.ref s.heap.objs.size) {s with heap:=h',toks:=tk}) :
  wpAny (model prog w) A (call (.type "dict") [.ref l]) Q E s:=by
 refine callType_codes (Q₁:=fun(obj:Value) (sv:Shared)=>obj=Value.ref s.heap.objs.size/\sv={s with heap:=s.heap.push {cls:=.type "dict",data:=.dict #[]}}) PySem.F.kt_called_dict (PySem.F.kt_typeCall_dict_1 _) PySem.F.entry_dict_init (kt_code_dict_new _ ⟨rfl,rfl⟩) ?_
 rintro obj sv hh_;refine c5 hh_ λq1_ q2_=>?_;clear hh_;subst q1_;subst q2_
 have hnew:(s.heap.push {cls:=.type "dict",data:=.dict #[]}).DictOf knd s.heap.objs.size []:=Heap.DictOf.new s.heap;have hx1:(s.heap.push {cls:=.type "dict",data:=.dict #[]}).get? l=some {cls:=.type "list",data:=.seq xs m}:=ag _ hx;have hlt:=aE hx;refine⟨hnew.typeIs,PySem.F.args_dict_init_2 _ _,?_⟩;unfold Builtin.«dict.__init__»;refine wpAny_bind ?_;unfold Builtin.Dict.selfAndRest;refine wpAny_bind (wpAny_notOrdered_dict hnew.typeIs ?_);show wpAny _ _ (pure (s.heap.objs.size,[Value.ref l])) _ _ _;refine wpAny_pure ?_;show wpAny _ _ (Builtin.Dict.updateFrom "dict.__init__" s.heap.objs.size (.ref l) [] .none) _ _ _;unfold Builtin.Dict.updateFrom;refine wpAny_bind (wpAny_typeOf (T:="list") ⟨_,hx1,rfl⟩ ?_);rw[if_pos (by decide)]
 refine wpAny_bind (aX2 hx1 hA λh2 tk2 hk2=>?_)
 rw[if_pos (by decide)]
 refine wpAny_bind (wpAny_rule ?_);have hx2:=hk2 _ _ hx1;have hl2:h2.IsList l xs:=⟨_,hx2,rfl,_,rfl⟩;refine wpAny_bind (wpAny_pyIter_list hl2 ?_);have hDlt:s.heap.objs.size<h2.objs.size:=by
  refine x8 hnew λo es ep ho z_=>?_
  exact aE (hk2 _ _ ho)
 have hne:l≠h2.objs.size:=λq=>by have:=aE hx2;lia
 have hld:l≠s.heap.objs.size:=by lia
 have hk3:∀ (o':Obj) b o,s.heap.get? b=some o->(h2.push o').get? b=some o:=λo' b o e=>ag _ (hk2 b o (ag _ e))
 refine wpAny_pure ⟨plainId_quiet U5 _,bR9 (knd:=knd) (A:=A.in1) (Walks.list (A:=A.in1.in1) hA h2.objs.size l hne xs).toS s.heap.objs.size ?_ _ kvs hn hz ?_ xs.size 0 _ rfl (ay _) ⟨⟨_,an _ rfl,rfl,rfl⟩,hl2.push _⟩ ?_ (λb o z_ z_ e=>e) λs' hm hd=>?_⟩
 ·intro hm
  have hm':s.heap.objs.size=h2.objs.size∨s.heap.objs.size=l:=by simpa using hm
  lia
 ·intro i v hv
  refine bq1 (hP i v hv) λt k x u m' q1_ h1 h3 h4=>?_;subst q1_
  have:=aE h3;refine⟨t,k,x,u,m',rfl,h1,hk3 _ _ _ h3,h4,by lia,?_⟩
  simp
  lia
 ·exact(hnew.keep hk2).push _
 ·refine⟨rfl,?_⟩
  obtain⟨hp',g',d',tk',os'⟩:=s';have hk':=hm.heap;obtain⟨-,q1,q2,q3,-⟩:=hm;simp only at q1 q2 q3 hk' hd
  subst q1 q2 q3;refine h _ _ hd λb o e=>hk' b o ?_ (hk3 _ b o e)
  have:=aE e;simp
  lia
end
section
variable{g:G}{F:Blk}{sc:Scope}{vs:List Str}{d:Nat}{q:Bool}{Z:List (Option V)}{Y:Hp}{Q:V->Hp->Prop}{X:Str->Hp->Prop}
noncomputable def D6(p:Str×V):V:=.tup [.str p.1,p.2]
def ce6(g:G)(h:Heap)(us:List Value)(ps:List (Str×V)):Prop:=
 ∀ P_:Prop,(∀ (kvs:List (Str×Value)) (r:KVs h kvs ps) (hl:kvs.length=us.length) (at':∀ (i:Nat) (v:Value),us[i]?=some v->∃ t k x u m,v=Value.ref t/\kvs[i]?=some (k,x)/\h.get? t=some {cls:=.type "tuple",data:=.seq #[u,x] m}/\(kdS g).knd.is k u=true),P_)->P_
theorem cj5{h:Heap}:∀ {ps:List (Str×V)} {us:List Value},d5 h us (ps.map D6)->ce6 g h us ps:=by
 intro ps;induction ps with
 | nil=>intro us r;obtain rfl:=r.ofNil;exact(λz_ k_=>k_ [] ⟨rfl,.nil⟩ rfl (λi v e=>by exact f9 e))
 | cons p ps ih=>
  intro us r;refine g7 r.ofCons λv us q1_ r1 r2=>?_;subst q1_
  refine(ih r2) _ ?_;rintro kvs ⟨k1,k2⟩ hl hat;refine l6 r1.ofTup λt ws m q1_ ht rt=>?_;subst q1_
  refine g7 rt.two λu x e ru rx=>?_
  obtain rfl:ws=#[u,x]:=Array.toList_inj.mp e;refine(λz_ k_=>k_ ((p.1,x)::kvs) ⟨by rw[cn,cn,k1],.cons rx k2⟩ (by rw[az,az,hl]) (λi v hv=>?_))
  cases i with
  | zero=>replace hv:=i5 hv;subst hv;exact⟨t,p.1,x,u,m,rfl,rfl,ht,(kdS g).rep _ _ _ ru⟩
  | succ i=>exact hat i v hv
theorem bI3{a:Addr}{ps:List (Str×V)}(hY:Y a=some (.lst (ps.map D6)))(hn:(ps.map (·.1)).Nodup)(hz:ps.length<=10000)(h:∀ b,Y b=none->Q (.ref b) (upd Y b (.ds ps))):Cl g ⟨sc,vs,d,true⟩ (.type "dict") [.ref a] Z Y Q X:=(λA env s us I r=>by
 refine a9 r.one λz_ q1_ r0=>?_;subst q1_
 obtain rfl:=r0.ofRef;obtain⟨vs,⟨n,ho⟩,rl⟩:=(I.sim.objs a _ hY).1;refine(cj5 (g:=g) rl) _ ?_;rintro kvs kk hl hat;rw[ao] at hl;have e1:vs.size=ps.length:=by rw[<- ao,rl.length,aa]
 refine cj9 (knd:=(kdS g).knd) (I.quiet rfl) ho kvs hl (by lia) (λi v hv=>hat i v (by rw[av];exact hv)) λh' tk hd hk=>?_
 rw[merged_nil_of_nodup _ (by rw[kk.1];exact hn)] at hd
 exact P4 (o:=.ds ps) I ⟨hk,rfl,rfl⟩ (u6 _) (λz_ k_=>k_ kvs hd (kk.mono λb z_ z_ e=>hk b _ e) (Y7 I)) h)
end
noncomputable def szs:List (Str×Int):=[("number",2),("paper",2),("line",2),("earlier",2),("add",3),("take",3),("least",3),("most",3),("part",3),("table",3),("where",4),("choose",4)]
noncomputable def siz(w:Str):Option Int:=szs.lookup w
noncomputable def E7:Str:="abcdefghijklmnopqrstuvwxyz"
noncomputable def n9(v:V)(lo hi:Int):Bool:=match v with
 | .int i=>decide (lo<=i)&&decide (i<=hi)
 | _=>false
noncomputable def m5(x:Str):Bool:=decide (1<=x.length)&&decide (x.length<=8)&&x.cps.toList.all λc=>Txt.contains E7 ⟨#[c]⟩
noncomputable def I0(v:V):Bool:=match v with
 | .str x=>m5 x
 | _=>false
noncomputable def V6(w:Str):Bool:=[("number" : Str),"paper","line","earlier"].any (· == w)
noncomputable def i4(w:Str)(args:List V):List V:=
 if V6 w then[] else if w == "part" then args.take 1 else if w == "table" || w == "choose" then args.drop 1 else args
noncomputable def arg(args:List V)(k:Nat):V:=(args[k]?).getD .none
structure Lim where
 L:Int
 T:Int
 C:Int
noncomputable def fit(z:Lim)(w:Str)(args:List V):Bool:=
 if w == "number" then n9 (arg args 0) (0-1000000000) 1000000000
 else if w == "paper" then I0 (arg args 0)
 else if w == "line" || w == "earlier" then n9 (arg args 0) 0 (z.L-1)
 else if w == "part" then n9 (arg args 1) 0 100
 else if w == "table" then n9 (arg args 0) 0 (z.T-1)
 else if w == "choose" then n9 (arg args 0) 0 (z.C-1)
 else true
noncomputable def ok(z:Lim):Nat->V->Bool
 | 0,_=>false
 | n+1,.tup (.str w::args)=>(siz w==some ((args.length:Int)+1))&&fit z w args&&(i4 w args).all (ok z n)
 | _+1,_=>false
noncomputable def f8:Nat->V->Str->List V
 | 0,_,_=>[]
 | n+1,.tup (.str w::args),u=>(if w==u then[arg args 0] else[])++((i4 w args).map λr=>f8 n r u).flatten
 | _+1,_,_=>[]
theorem K9(z:Lim)(n:Nat)(w:Str)(args:List V):ok z (n+1) (.tup (.str w::args))=((siz w==some ((args.length:Int)+1))&&fit z w args&&(i4 w args).all (ok z n)):=rfl
theorem E9(n:Nat)(w:Str)(args:List V)(u:Str):f8 (n+1) (.tup (.str w::args)) u=(if w==u then[arg args 0] else[])++((i4 w args).map λr=>f8 n r u).flatten:=rfl
theorem ff{P:Prop}(h:false=true):P:=(ac h).elim
theorem ci6{α β:Type}[BEq α][LawfulBEq α]{l:List (α×β)}{a:α}{b:β}(h:l.lookup a=some b):(a,b)∈l:=by
 induction l with
 | nil=>cases h
 | cons p l ih=>
  obtain⟨x,y⟩:=p;rw[aR] at h;cases hx:a==x with
  | true=>rw[hx] at h;replace h:=i5 h;subst h;rw[beq_iff_eq.mp hx];exact be
  | false=>rw[hx] at h;exact aG _ (ih h)
theorem Q5{w:Str}{n:Int}(h:siz w=some n):(w,n)∈szs:=ci6 h
class inductive GR (z:Lim) (see:Int->Prop) (wd:Str->Prop):Nat->V->Prop
 | num {d:Nat} {i:Int}:0-1000000000<=i->i<=1000000000->GR z see wd (d+1) (.tup [.str "number",.int i])
 | line {d:Nat} {i:Int}:see i->GR z see wd (d+1) (.tup [.str "line",.int i])
 | earlier {d:Nat} {i:Int}:0<=i->i<z.L->GR z see wd (d+1) (.tup [.str "earlier",.int i])
 | paper {d:Nat} {x:Str}:wd x->GR z see wd (d+1) (.tup [.str "paper",.str x])
 | part {d:Nat} {r:V} {i:Int}:GR z see wd d r->0<=i->i<=100->GR z see wd (d+1) (.tup [.str "part",r,.int i])
 | table {d:Nat} {r:V} {i:Int}:GR z see wd d r->0<=i->i<z.T->GR z see wd (d+1) (.tup [.str "table",.int i,r])
 | twol {d:Nat} {w:Str} {r t:V}:w∈[("add" : Str),"take","least","most"]->GR z see wd d r->GR z see wd (min d 2) t->GR z see wd (d+1) (.tup [.str w,r,t])
 | twor {d:Nat} {w:Str} {r t:V}:w∈[("add" : Str),"take","least","most"]->GR z see wd (min d 2) r->GR z see wd d t->GR z see wd (d+1) (.tup [.str w,r,t])
 | wherl {d:Nat} {r t u:V}:GR z see wd d r->GR z see wd (min d 2) t->GR z see wd (min d 2) u->GR z see wd (d+1) (.tup [.str "where",r,t,u])
 | wherr {d:Nat} {r t u:V}:GR z see wd (min d 2) r->GR z see wd d t->GR z see wd (min d 2) u->GR z see wd (d+1) (.tup [.str "where",r,t,u])
 | chol {d:Nat} {r t:V} {i:Int}:0<=i->i<z.C->GR z see wd d r->GR z see wd (min d 2) t->GR z see wd (d+1) (.tup [.str "choose",.int i,r,t])
 | chor {d:Nat} {r t:V} {i:Int}:0<=i->i<z.C->GR z see wd (min d 2) r->GR z see wd d t->GR z see wd (d+1) (.tup [.str "choose",.int i,r,t])
theorem s1{d e:Nat}(h:d+1<=e):∃ k,e=k+1/\d<=k:=by
 cases e with
 | zero=>exact absurd h (Nat.not_succ_le_zero _)
 | succ e=>exact⟨e,rfl,eh h⟩
theorem H7{d k:Nat}(h:d<=k):min d 2<=min k 2:=Nat.le_min.mpr ⟨al (aU _ _) h,bP _ _⟩
theorem GR.le{z:Lim}{see:Int->Prop}{wd:Str->Prop}{d:Nat}{r:V}(h:GR z see wd d r):∀ {e:Nat},d<=e->GR z see wd e r:=by
 induction h with
 | num a b=>intro e he;refine a9 (s1 he) λe q1_ hk=>?_;subst q1_;exact .num a b
 | line a=>intro e he;refine a9 (s1 he) λe q1_ hk=>?_;subst q1_;exact .line a
 | earlier a b=>intro e he;refine a9 (s1 he) λe q1_ hk=>?_;subst q1_;exact .earlier a b
 | paper a=>intro e he;refine a9 (s1 he) λe q1_ hk=>?_;subst q1_;exact .paper a
 | part _ a b ih=>intro e he;refine a9 (s1 he) λe q1_ hk=>?_;subst q1_;exact .part (ih hk) a b
 | table _ a b ih=>intro e he;refine a9 (s1 he) λe q1_ hk=>?_;subst q1_;exact .table (ih hk) a b
 | twol a _ _ i1 i2=>intro e he;refine a9 (s1 he) λe q1_ hk=>?_;subst q1_;exact .twol a (i1 hk) (i2 (H7 hk))
 | twor a _ _ i1 i2=>intro e he;refine a9 (s1 he) λe q1_ hk=>?_;subst q1_;exact .twor a (i1 (H7 hk)) (i2 hk)
 | wherl _ _ _ i1 i2 i3=>intro e he;refine a9 (s1 he) λe q1_ hk=>?_;subst q1_;exact .wherl (i1 hk) (i2 (H7 hk)) (i3 (H7 hk))
 | wherr _ _ _ i1 i2 i3=>intro e he;refine a9 (s1 he) λe q1_ hk=>?_;subst q1_;exact .wherr (i1 (H7 hk)) (i2 hk) (i3 (H7 hk))
 | chol a b _ _ i1 i2=>intro e he;refine a9 (s1 he) λe q1_ hk=>?_;subst q1_;exact .chol a b (i1 hk) (i2 (H7 hk))
 | chor a b _ _ i1 i2=>intro e he;refine a9 (s1 he) λe q1_ hk=>?_;subst q1_;exact .chor a b (i1 (H7 hk)) (i2 hk)
theorem bT7:siz "number" = some 2:=by decide +kernel
theorem ai3(a:List V):i4 "number" a=[]:=if_pos (by decide +kernel)
theorem U1(z:Lim)(a:List V):fit z "number" a=n9 (arg a 0) (0-1000000000) 1000000000:=if_pos (by decide +kernel)
theorem bo0:siz "paper" = some 2:=by decide +kernel
theorem af3(a:List V):i4 "paper" a=[]:=if_pos (by decide +kernel)
theorem S4(z:Lim)(a:List V):fit z "paper" a=I0 (arg a 0):=(if_neg (by decide +kernel)).trans (if_pos (by decide +kernel))
theorem bz2:siz "line" = some 2:=by decide +kernel
theorem af2(a:List V):i4 "line" a=[]:=if_pos (by decide +kernel)
theorem Q2(z:Lim)(a:List V):fit z "line" a=n9 (arg a 0) 0 (z.L-1):=(if_neg (by decide +kernel)).trans ((if_neg (by decide +kernel)).trans (if_pos (by decide +kernel)))
theorem br4:siz "earlier" = some 2:=by decide +kernel
theorem ab1(a:List V):i4 "earlier" a=[]:=if_pos (by decide +kernel)
theorem O7(z:Lim)(a:List V):fit z "earlier" a=n9 (arg a 0) 0 (z.L-1):=(if_neg (by decide +kernel)).trans ((if_neg (by decide +kernel)).trans (if_pos (by decide +kernel)))
theorem bl3:siz "add" = some 3:=by decide +kernel
theorem X7(a:List V):i4 "add" a=a:=(if_neg (by decide +kernel)).trans ((if_neg (by decide +kernel)).trans (if_neg (by decide +kernel)))
theorem ay7(z:Lim)(a:List V):fit z "add" a=true:=(if_neg (by decide +kernel)).trans ((if_neg (by decide +kernel)).trans ((if_neg (by decide +kernel)).trans ((if_neg (by decide +kernel)).trans ((if_neg (by decide +kernel)).trans (if_neg (by decide +kernel))))))
theorem bc5:siz "take" = some 3:=by decide +kernel
theorem T8(a:List V):i4 "take" a=a:=(if_neg (by decide +kernel)).trans ((if_neg (by decide +kernel)).trans (if_neg (by decide +kernel)))
theorem aC7(z:Lim)(a:List V):fit z "take" a=true:=(if_neg (by decide +kernel)).trans ((if_neg (by decide +kernel)).trans ((if_neg (by decide +kernel)).trans ((if_neg (by decide +kernel)).trans ((if_neg (by decide +kernel)).trans (if_neg (by decide +kernel))))))
theorem by9:siz "least" = some 3:=by decide +kernel
theorem Z4(a:List V):i4 "least" a=a:=(if_neg (by decide +kernel)).trans ((if_neg (by decide +kernel)).trans (if_neg (by decide +kernel)))
theorem an2(z:Lim)(a:List V):fit z "least" a=true:=(if_neg (by decide +kernel)).trans ((if_neg (by decide +kernel)).trans ((if_neg (by decide +kernel)).trans ((if_neg (by decide +kernel)).trans ((if_neg (by decide +kernel)).trans (if_neg (by decide +kernel))))))
theorem aQ3:siz "most" = some 3:=by decide +kernel
theorem X4(a:List V):i4 "most" a=a:=(if_neg (by decide +kernel)).trans ((if_neg (by decide +kernel)).trans (if_neg (by decide +kernel)))
theorem aI6(z:Lim)(a:List V):fit z "most" a=true:=(if_neg (by decide +kernel)).trans ((if_neg (by decide +kernel)).trans ((if_neg (by decide +kernel)).trans ((if_neg (by decide +kernel)).trans ((if_neg (by decide +kernel)).trans (if_neg (by decide +kernel))))))
theorem aq8:siz "part" = some 3:=by decide +kernel
theorem I6(a:List V):i4 "part" a=a.take 1:=(if_neg (by decide +kernel)).trans (if_pos (by decide +kernel))
theorem X1(z:Lim)(a:List V):fit z "part" a=n9 (arg a 1) 0 100:=(if_neg (by decide +kernel)).trans ((if_neg (by decide +kernel)).trans ((if_neg (by decide +kernel)).trans (if_pos (by decide +kernel))))
theorem bs6:siz "table" = some 3:=by decide +kernel
theorem I9(a:List V):i4 "table" a=a.drop 1:=(if_neg (by decide +kernel)).trans ((if_neg (by decide +kernel)).trans (if_pos (by decide +kernel)))
theorem P9(z:Lim)(a:List V):fit z "table" a=n9 (arg a 0) 0 (z.T-1):=(if_neg (by decide +kernel)).trans ((if_neg (by decide +kernel)).trans ((if_neg (by decide +kernel)).trans ((if_neg (by decide +kernel)).trans (if_pos (by decide +kernel)))))
theorem ao7:siz "where" = some 4:=by decide +kernel
theorem C2(a:List V):i4 "where" a=a:=(if_neg (by decide +kernel)).trans ((if_neg (by decide +kernel)).trans (if_neg (by decide +kernel)))
theorem al1(z:Lim)(a:List V):fit z "where" a=true:=(if_neg (by decide +kernel)).trans ((if_neg (by decide +kernel)).trans ((if_neg (by decide +kernel)).trans ((if_neg (by decide +kernel)).trans ((if_neg (by decide +kernel)).trans (if_neg (by decide +kernel))))))
theorem aK6:siz "choose" = some 4:=by decide +kernel
theorem B9(a:List V):i4 "choose" a=a.drop 1:=(if_neg (by decide +kernel)).trans ((if_neg (by decide +kernel)).trans (if_pos (by decide +kernel)))
theorem K5(z:Lim)(a:List V):fit z "choose" a=n9 (arg a 0) 0 (z.C-1):=(if_neg (by decide +kernel)).trans ((if_neg (by decide +kernel)).trans ((if_neg (by decide +kernel)).trans ((if_neg (by decide +kernel)).trans ((if_neg (by decide +kernel)).trans (if_pos (by decide +kernel))))))
noncomputable def B(n:Nat):Nat:=Nat.casesOn n 0 λn=>Nat.casesOn n 1 λn=>9*n+4
theorem aN0{n a b c:Nat}(hn:n≠0)(ha:a<=B n)(hb:b<=B n)(hb4:b<=4)(hc:c<=B n)(hc4:c<=4):1+a+b+c<=B (n+1):=by
 cases n with
 | zero=>exact absurd rfl hn
 | succ n=>cases n with
  | zero=>
   have h1:B (0+1)=1:=rfl;rw[h1] at ha hb hc;have h:1+a+b+c<=1+1+1+1:=cY (cY (cr ha 1) hb) hc;exact h
  | succ n=>
   have h:1+a+b+c<=1+(9*n+4)+4+4:=cY (cY (cr ha 1) hb4) hc4;exact al h (Nat.le_of_eq (show 1+(9*n+4)+4+4=9*(n+1)+4 by lia))
theorem S1{n m:Nat}(h:n<=m):B n<=B m:=by
 induction h with
 | refl=>exact aI _
 | @step m _ ih=>
  refine al ih ?_;cases m with
  | zero=>exact ay _
  | succ m=>exact al (aP _ _) (aN0 (a:=B (m+1)) (b:=0) (c:=0) (dB _) (aI _) (ay _) (ay _) (ay _) (ay _))
theorem aI0{k:Nat}(h:k<=2):B k<=4:=S1 h
noncomputable def Few(z:Lim)(r:V):Prop:=∀ n u,ok z n r=true->(f8 n r u).length<=B n
theorem aY8{c:Bool}{x:V}:(if c=true then[x] else[]).length<=1:=by cases c;exact ay 1;exact aI 1
theorem G3{z:Lim}{n:Nat}{w:Str}{args:List V}(h:ok z n (.tup (.str w::args))=true):∃ m,n=m+1/\siz w=some ((args.length:Int)+1)/\fit z w args=true/\∀ x∈i4 w args,ok z m x=true:=by
 cases n with
 | zero=>exact ff h
 | succ m=>
  simp only[K9,aQ,aB,beq_iff_eq] at h
  exact⟨m,rfl,h.1.1,h.1.2,h.2⟩
theorem aD0{n:Nat}{w:Str}{args:List V}{u:Str}:(f8 (n+1) (.tup (.str w::args)) u).length<=1+((i4 w args).map λr=>(f8 n r u).length).sum:=by
 simp only[E9,ar,eP,aZ,Function.comp_def]
 exact cT aY8 _
structure Sz(z:Lim)(r:V)(k:Nat):Prop where
 pos:k≠0
 le:∀ n,ok z n r=true->k<=n
 few:∀ n u,ok z n r=true->(f8 n r u).length<=B k
section
variable{z:Lim}{w:Str}{args:List V}{x y t:V}{a b c:Nat}
theorem Z7(e:i4 w args=[]):Sz z (.tup (.str w::args)) 1:=by
 refine⟨Nat.one_ne_zero,λn h=>?_,λn u h=>?_⟩
 ·refine a9 (G3 h) λm q1_ z_=>?_;subst q1_;exact aP _ _
 ·refine a9 (G3 h) λm q1_ z_=>?_;subst q1_
  have:=aD0 (n:=m) (w:=w) (args:=args) (u:=u);rw[e] at this;exact this
theorem an7{k:Nat}(hk:k≠0)(hle:∀ n,(∀ y∈i4 w args,ok z n y=true)->k<=n)(hs:∀ n u,(∀ y∈i4 w args,ok z n y=true)->∃ p q r,((i4 w args).map λr=>(f8 n r u).length).sum=p+q+r/\p<=B k/\(q<=B k/\q<=4)/\r<=B k/\r<=4):Sz z (.tup (.str w::args)) (k+1):=by
 refine⟨dB _,λn h=>?_,λn u h=>?_⟩
 ·refine G9 (G3 h) λm q1_ z_ z_ hi=>?_;subst q1_;exact bG (hle m hi)
 ·refine G9 (G3 h) λm q1_ z_ z_ hi=>?_;subst q1_
  obtain⟨p,q,r,e,h1,⟨h2,h3⟩,h4,h5⟩:=hs m u hi;have h6:=aD0 (n:=m) (w:=w) (args:=args) (u:=u);rw[e,<- cH,<- cH] at h6;exact al h6 (aN0 hk h1 h2 h3 h4 h5)
theorem sz1(e:i4 w args=[x])(hx:Sz z x a):Sz z (.tup (.str w::args)) (a+1):=
 an7 hx.pos (λn h=>hx.le n (h x (by rw[e];exact dO _))) λn u h=>⟨(f8 n x u).length,0,0,by rw[e];rfl,hx.few n u (h x (by rw[e];exact dO _)),⟨ay _,ay _⟩,ay _,ay _⟩
theorem sz3{cs:List V}(e:i4 w args=cs)(h1:x∈cs)(h2:y∈cs)(h3:t∈cs)(f:Nat->Str->Nat)(hf:∀ n u,f n u=0∨f n u=(f8 n t u).length)(hsum:∀ n u,(cs.map λr=>(f8 n r u).length).sum=(f8 n x u).length+(f8 n y u).length+f n u)(hx:Sz z x a)(hy:Sz z y b)(ht:Sz z t c)(hb:b<=2)(hc:c<=2):Sz z (.tup (.str w::args)) (max a (max b c)+1):=by
 subst e;have ha:a<=max a (max b c):=Nat.le_max_left _ _;have hbm:b<=max a (max b c):=al (Nat.le_max_left _ _) (dF _ _);have hcm:c<=max a (max b c):=al (dF _ _) (dF _ _);refine an7 (λq=>hx.pos (Nat.le_zero.mp (q▸ha))) (λn h=>cU.mpr ⟨hx.le n (h x h1),cU.mpr ⟨hy.le n (h y h2),ht.le n (h t h3)⟩⟩) λn u h=>?_
 have k2:=hy.few n u (h y h2);have k3:f n u<=B c:=by
  rcases hf n u with q | q
  ·rw[q];exact ay _
  ·rw[q];exact ht.few n u (h t h3)
 exact⟨_,_,_,hsum n u,al (hx.few n u (h x h1)) (S1 ha),⟨al k2 (S1 hbm),al k2 (aI0 hb)⟩,al k3 (S1 hcm),al k3 (aI0 hc)⟩
theorem aK7(e:i4 w args=[x,y])(hx:Sz z x a)(hy:Sz z y b)(hb:b<=2):Sz z (.tup (.str w::args)) (max a (max b b)+1):=
 sz3 (t:=y) e (.head _) (.tail _ (.head _)) (.tail _ (.head _)) (λz_ z_=>0) (λz_ z_=>.inl rfl) (λn u=>rfl) hx hy hy hb hb
theorem at4(e:i4 w args=[y,x])(hx:Sz z x a)(hy:Sz z y b)(hb:b<=2):Sz z (.tup (.str w::args)) (max a (max b b)+1):=
 sz3 (t:=y) e (.tail _ (.head _)) (.head _) (.head _) (λz_ z_=>0) (λz_ z_=>.inl rfl) (λn u=>(dG (f8 n y u).length (f8 n x u).length)) hx hy hy hb hb
theorem bi9(e:i4 w args=[x,y,t])(hx:Sz z x a)(hy:Sz z y b)(ht:Sz z t c)(hb:b<=2)(hc:c<=2):Sz z (.tup (.str w::args)) (max a (max b c)+1):=
 sz3 e (.head _) (.tail _ (.head _)) (.tail _ (.tail _ (.head _))) (λn u=>(f8 n t u).length) (λz_ z_=>.inr rfl) (λn u=>(cH _ _ _).symm) hx hy ht hb hc
theorem bn2(e:i4 w args=[y,x,t])(hx:Sz z x a)(hy:Sz z y b)(ht:Sz z t c)(hb:b<=2)(hc:c<=2):Sz z (.tup (.str w::args)) (max a (max b c)+1):=
 sz3 e (.tail _ (.head _)) (.head _) (.tail _ (.tail _ (.head _))) (λn u=>(f8 n t u).length) (λz_ z_=>.inr rfl) (λn u=>by rw[dG (f8 n x u).length];exact(cH _ _ _).symm) hx hy ht hb hc
end
theorem le2{k d:Nat}(h:k<=min d 2):k<=2:=al h (bP _ _)
theorem led{k d:Nat}(h:k<=min d 2):k<=d:=al h (aU _ _)
theorem N6{a b c d:Nat}(ha:a<=d)(hb:b<=d)(hc:c<=d):max a (max b c)+1<=d+1:=bG (cU.mpr ⟨ha,cU.mpr ⟨hb,hc⟩⟩)
theorem O2{w:Str}{l:List V}(a:w∈[("add" : Str),"take","least","most"]):i4 w l=l:=by
 simp only[am,aC,or_false] at a
 rcases a with rfl | rfl | rfl | rfl
 ·exact X7 _
 ·exact T8 _
 ·exact Z4 _
 ·exact X4 _
theorem aA1{w:Str}(a:w∈[("add" : Str),"take","least","most"]):siz w=some 3:=by
 simp only[am,aC,or_false] at a
 rcases a with rfl | rfl | rfl | rfl
 ·exact bl3
 ·exact bc5
 ·exact by9
 ·exact aQ3
theorem GR.sz{z:Lim}{see:Int->Prop}{wd:Str->Prop}{d:Nat}{r:V}(h:GR z see wd d r):∃ k,k<=d/\Sz z r k:=by
 induction h with
 | num a b=>exact⟨1,aP _ _,Z7 (ai3 _)⟩
 | line a=>exact⟨1,aP _ _,Z7 (af2 _)⟩
 | earlier a b=>exact⟨1,aP _ _,Z7 (ab1 _)⟩
 | paper a=>exact⟨1,aP _ _,Z7 (af3 _)⟩
 | part _ a b ih=>refine a9 ih λk hk s=>?_;exact⟨k+1,bG hk,sz1 (I6 _) s⟩
 | table _ a b ih=>refine a9 ih λk hk s=>?_;exact⟨k+1,bG hk,sz1 (I9 _) s⟩
 | twol a _ _ i1 i2=>refine a9 i1 λk hk s=>?_;refine a9 i2 λj hj t=>?_;exact⟨_,N6 hk (led hj) (led hj),aK7 (O2 a) s t (le2 hj)⟩
 | twor a _ _ i2 i1=>refine a9 i1 λk hk s=>?_;refine a9 i2 λj hj t=>?_;exact⟨_,N6 hk (led hj) (led hj),at4 (O2 a) s t (le2 hj)⟩
 | wherl _ _ _ i1 i2 i3=>refine a9 i1 λk hk s=>?_;refine a9 i2 λj hj t=>?_;refine a9 i3 λi hi v=>?_;exact⟨_,N6 hk (led hj) (led hi),bi9 (C2 _) s t v (le2 hj) (le2 hi)⟩
 | wherr _ _ _ i2 i1 i3=>refine a9 i1 λk hk s=>?_;refine a9 i2 λj hj t=>?_;refine a9 i3 λi hi v=>?_;exact⟨_,N6 hk (led hj) (led hi),bn2 (C2 _) s t v (le2 hj) (le2 hi)⟩
 | chol a b _ _ i1 i2=>refine a9 i1 λk hk s=>?_;refine a9 i2 λj hj t=>?_;exact⟨_,N6 hk (led hj) (led hj),aK7 (B9 _) s t (le2 hj)⟩
 | chor a b _ _ i2 i1=>refine a9 i1 λk hk s=>?_;refine a9 i2 λj hj t=>?_;exact⟨_,N6 hk (led hj) (led hj),at4 (B9 _) s t (le2 hj)⟩
theorem GR.few{z:Lim}{see:Int->Prop}{wd:Str->Prop}{d:Nat}{r:V}(h:GR z see wd d r):Few z r:=λn u hk=>by
 refine a9 h.sz λk z_ s=>?_
 exact al (s.few n u hk) (S1 (s.le n hk))
class inductive Cld (Y:Hp):V->Prop
 | none:Cld Y .none
 | bool (b:Bool):Cld Y (.bool b)
 | int (i:Int):Cld Y (.int i)
 | str {x:Str} (h:x.length<=10000):Cld Y (.str x)
 | ref {a:Addr} {l:List V} (h:Y a=some (.lst l)):Cld Y (.ref a)
 | tup {l:List V} (hz:l.length<=100) (h:∀ x∈l,Cld Y x):Cld Y (.tup l)
noncomputable def Ok(Y:Hp)(v:V):Prop:=∀ a,v=.ref a->∃ l,Y a=some (.lst l)
theorem Cld.ok{Y:Hp}{v:V}(h:Cld Y v):Ok Y v:=λa e=>by subst e;cases h with | ref h=>exact⟨_,h⟩
theorem Cld.strz{Y:Hp}{x:Str}(h:Cld Y (.str x)):x.length<=10000:=by cases h;assumption
theorem Cld.tups{Y:Hp}{l:List V}(h:Cld Y (.tup l)):l.length<=100/\∀ x∈l,Cld Y x:=by cases h with | tup a b=>exact⟨a,b⟩
theorem Cld.sub{Y Y':Hp}{v:V}(h:Cld Y v)(k:Sub Y Y'):Cld Y' v:=by
 induction h with
 | none=>exact .none
 | bool b=>exact .bool b
 | int i=>exact .int i
 | str h=>exact .str h
 | ref h=>exact .ref (k _ _ h)
 | tup hz _ ih=>exact .tup hz ih
theorem as5{w:Str}{args:List V}{x:V}(h:x∈i4 w args):x∈args:=by
 unfold i4 at h
 split at h
 ·cases h
 ·split at h
  ·exact cc h
  ·split at h
   ·exact eI h
   ·exact h
theorem bF2{α:Type}{lo hi:Option Int}{l:List α}:(slc lo hi l).length<=l.length:=by
 exact al (cR _ _) (by rw[cg];exact Nat.sub_le _ _)
theorem bf3{α:Type}{lo hi:Option Int}{l:List α}{x:α}(h:x∈slc lo hi l):x∈l:=eI (cc h)
section
variable{g:G}{F:Blk}{Z:List (Option V)}{Y:Hp}{Q:V->Hp->Prop}{X:Str->Hp->Prop}
end
section
variable{g:G}{sc:Scope}{vs:List Str}{d:Nat}{Z:List (Option V)}{Y:Hp}{Q:V->Hp->Prop}{X:Str->Hp->Prop}
end
theorem aB3(x:V)(l:List V):slc (some 1) none (x::l)=l:=by rw[aO3 (by lia)];rfl
theorem aA9(x:V)(l:List V):slc (some 2) none (x::l)=l.drop 1:=by rw[aO3 (by lia)];rfl
noncomputable def Let(x:Str):Prop:=∀ c∈x.cps.toList,Txt.contains E7 ⟨#[c]⟩=true
theorem bc9:E7.cps.toList.all (λc=>Txt.contains E7 ⟨#[c]⟩)=true:=by decide +kernel
theorem aI2{c k:Nat}(h:E7.cps[k]?=some c):Let ⟨#[c]⟩:=λd hd=>by
 have:d=c:=by simpa using hd
 subst this;refine aB.mp bc9 d ?_;rw[<- av] at h;exact aD h
theorem Let.nil:Let (Str.ofString ""):=λc hc=>by rw[show(Str.ofString "").cps.toList=[] from by decide +kernel] at hc;cases hc
theorem ay2(x y:Str):(x++y).cps.toList=x.cps.toList++y.cps.toList:=by
 show(x.cps++y.cps).toList=_;simp
theorem O3(x:Str):x.length=x.cps.toList.length:=by simp[Str.length]
theorem ah2(x y:Str):(x++y).length=x.length+y.length:=by
 rw[O3,ay2,ar,<- O3,<- O3]
theorem Let.app{x y:Str}(hx:Let x)(hy:Let y):Let (x++y):=λc hc=>by
 rw[ay2] at hc;rcases au.mp hc with h | h
 ·exact hx c h
 ·exact hy c h
theorem Let.sls{x:Str}(hx:Let x)(lo hi:Option Int):Let (sls lo hi x):=λc hc=>hx c (bf3 (by simpa[Internal.sls] using hc))
theorem aE0(lo hi:Option Int)(x:Str):(sls lo hi x).length=(slc lo hi x.cps.toList).length:=by
 rw[O3];simp[sls]
theorem aJ8{x:Str}{j:Int}(h0:0<=j)(h1:j<=x.length):(sls none (some j) x).length=j.toNat:=by
 rw[aE0,aN1 h0,bR,<- O3];lia
theorem bY2{x:Str}{i j:Int}(h0:0<=i)(h1:i<=x.length):(sls (some i) (some j) x).length<=x.length-i.toNat:=by
 rw[aE0];unfold slc;rw[bR,cg,<- O3];refine al (bP _ _) ?_;show x.length-clipAt x.length i<=_;rw[I2 h0,bB (eX.mpr h1)];exact aI _
theorem Let.word{x:Str}(h:Let x)(h1:1<=x.length)(h8:x.length<=8):m5 x=true:=by
 unfold m5;simp only[aQ,decide_eq_true_eq,aB]
 exact⟨⟨h1,h8⟩,h⟩
theorem ak9{x:Str}(h:m5 x=true):Let x/\1<=x.length/\x.length<=8:=by
 unfold m5 at h;simp only[aQ,decide_eq_true_eq,aB] at h
 exact⟨h.2,h.1.1,h.1.2⟩
theorem bE4:m5 "line" = true:=by decide +kernel
theorem br8:m5 "paper" = true:=by decide +kernel
theorem bF1:m5 "add" = true:=by decide +kernel
theorem bP1{c:Nat}(h:Txt.contains E7 ⟨#[c]⟩=true):c<128:=by
 unfold Txt.contains at h;rw[StrLaws.found_one] at h;have h2:E7.cps.toList.all (λc=>decide (c<128))=true:=by decide +kernel
 exact of_decide_eq_true (aB.mp h2 c (of_decide_eq_true h))
theorem Let.strOk{x:Str}(h:Let x):PyData.strOk x=true:=by
 unfold PyData.strOk;rw[<- Array.all_toList,aB];exact λc hc=>decide_eq_true (bQ (bP1 (h c hc)) (by decide))
set_option tactic.hygienic true in
theorem P3{Y:Hp}{a:Addr}{o:AObj}(h:Y a=some o):upd Y a o=Y:=by
 funext b;unfold upd;split
 ·rename_i e;rw[e,h]
 ·rfl
set_option tactic.hygienic true in
theorem bv5{Y τ:Hp}{a:Addr}{x:AObj}(h:∀ b o,b≠a->Y b=some o->τ b=some o):Sub (upd Y a x) (upd τ a x):=λb o e=>by
 unfold upd at e ⊢
 split
 ·rename_i q;rw[if_pos q] at e;exact e
 ·rename_i q;rw[if_neg q] at e;exact h b o q e
theorem c7.deep{g:G}{d d':Nat}{q:Bool}{f:Str}{as:List V}{Y:Hp}{Q:V->Hp->Prop}{X:Str->Hp->Prop}(h:c7 g d q f as Y Q X)(hd:d<=d'):c7 g d' q f as Y Q X:=(λA s vs a h1 h2 h3 h4 h5 h6=>
 h A s vs a h1 (by lia) (by lia) h4 h5 h6)
theorem Y0{α:Type}{f:α->V}{l:List α}{k:Nat}{x:V}(h:(l.map f)[k]?=some x):∃ y∈l,x=f y:=by
 rw[aq] at h;cases q:l[k]? with
 | none=>rw[q] at h;cases h
 | some y=>rw[q] at h;exact⟨y,aD q,(Option.some.inj h).symm⟩
section
variable{g:G}{F:Blk}{Z:List (Option V)}{Y:Hp}{Q:V->Hp->Prop}{QB:Bool->Hp->Prop}{X:Str->Hp->Prop}
theorem Tst.drop{e:Expr}(h:Tst g F e Z Y (λv Y'=>∃ Y'',Sub Y'' Y'/\QB v Y'') (λx Y'=>∃ Y'',Sub Y'' Y'/\X x Y'')):Tst g F e Z Y QB X:=(λA env s I=>
 wpAny_mono (h A env s I) (λb s' p_=>p_ _ λY' I' st ⟨Y'',k,q⟩=>(λz_ k_=>k_ Y'' (I'.sub k) (st.sub k) q)) λe s' p_=>p_ _ λx Y' r I' st ⟨Y'',k,q⟩=>(λz_ k_=>k_ x Y'' (r.sub k) (I'.sub k) (st.sub k) q))
end
theorem F6:∀ {l k:List V},l.Nodup->(∀ y∈l,y∈k)->l.length<=k.length
 | [],k,_,_=>ay _
 | x::l,k,hn,hs=>by
  refine c5 (bJ.mp hn) λh1 h2=>?_
  obtain⟨s,t,rfl⟩:=List.append_of_mem (hs x (by simp))
  have:=F6 (l:=l) (k:=s++t) h2 λy hy=>by
   have hy':=hs y (aG _ hy);rcases au.mp hy' with q | q
   ·exact au.mpr (.inl q)
   ·rcases am.mp q with q | q
    ·subst q;exact absurd hy h1
    ·exact au.mpr (.inr q)
  simp only[ar,az] at this ⊢
  lia
theorem Srt.nodup{l:List V}(h:Srt l):l.Nodup:=List.Pairwise.imp (fun{a b} hab e=>by subst e;exact aY9 _ hab) h
noncomputable def n8(y:V):Prop:=(∃ i,y=.int i)∨∃ x,y=.str x/\PyData.strOk x=true
theorem n8.flat{y:V}(h:n8 y):flat y=true:=by
 rcases h with ⟨i,rfl⟩ | ⟨x,rfl,hx⟩
 ·rfl
 ·exact hx
theorem n8.pure{y:V}(h:n8 y):G8 y=true:=by
 rcases h with ⟨i,rfl⟩ | ⟨x,rfl,hx⟩<;>rfl
theorem n8.dep{y:V}(h:n8 y):dep y=0:=by
 rcases h with ⟨i,rfl⟩ | ⟨x,rfl,hx⟩<;>rfl
theorem n8.flatL:∀ {l:List V},(∀ y∈l,n8 y)->flatL l=true
 | [],_=>rfl
 | x::l,h=>by
  show(Internal.flat x&&Internal.flatL l)=true;rw[(h x (by simp)).flat,n8.flatL λy hy=>h y (aG _ hy)];rfl
theorem n8.depL:∀ {l:List V},(∀ y∈l,n8 y)->depL l=0
 | [],_=>rfl
 | x::l,h=>by
  have h1:=(h x (by simp)).dep
  have h2:=n8.depL (l:=l) λy hy=>h y (aG _ hy)
  show max (dat x).depth (PyData.depthAll (l4 l))=0;unfold Internal.dep at h1;unfold Internal.depL at h2;lia
noncomputable def G0(F:List V)(x:V):Bool:=(l4 F).any λy=>PyData.eqv y (dat x)
theorem ak8{F:List V}{x:V}(hF:∀ y∈F,n8 y)(hx:n8 x):G0 F x=true↔x∈F:=by
 unfold G0;rw[ca4,List.any_map,dH];constructor
 ·rintro hh_;refine a9 hh_ λy hy e=>?_
  have:=(aC5 (hF y hy).pure hx.pure).mp e;subst this;exact hy
 ·intro h
  exact⟨x,h,(aC5 hx.pure hx.pure).mpr rfl⟩
theorem SK.sub{l k:List V}(h:SK l)(hs:∀ y∈k,y∈l):SK k:=by
 rcases h with ⟨ns,rfl⟩ | ⟨ss,rfl⟩
 ·left
  induction k with
  | nil=>exact⟨[],rfl⟩
  | cons y k ih=>
   obtain⟨ms,rfl⟩:=ih λz hz=>hs z (aG _ hz)
   obtain⟨i,-,rfl⟩:=ai.mp (hs y (by simp))
   exact⟨i::ms,rfl⟩
 ·right
  induction k with
  | nil=>exact⟨[],rfl⟩
  | cons y k ih=>
   obtain⟨ms,rfl⟩:=ih λz hz=>hs z (aG _ hz)
   obtain⟨i,-,rfl⟩:=ai.mp (hs y (by simp))
   exact⟨i::ms,rfl⟩
theorem SK.of_ints{l:List V}(h:∀ y∈l,∃ i,y=.int i):SK l:=by
 left;induction l with
 | nil=>exact⟨[],rfl⟩
 | cons y k ih=>
  obtain⟨ms,rfl⟩:=ih λz hz=>h z (aG _ hz)
  obtain⟨i,rfl⟩:=h y (by simp)
  exact⟨i::ms,rfl⟩
theorem SK.of_strs{l:List V}(h:∀ y∈l,∃ i,y=.str i):SK l:=by
 right;induction l with
 | nil=>exact⟨[],rfl⟩
 | cons y k ih=>
  obtain⟨ms,rfl⟩:=ih λz hz=>h z (aG _ hz)
  obtain⟨i,rfl⟩:=h y (by simp)
  exact⟨i::ms,rfl⟩
theorem K1{z:Lim}{n:Nat}{x:V}(h:ok z n x=true):∃ w args,x=.tup (.str w::args):=by
 cases n with
 | zero=>exact ff h
 | succ n=>
  cases x with
  | tup l=>
   cases l with
   | nil=>exact ff h
   | cons y l=>
    cases y with
    | str w=>exact⟨w,l,rfl⟩
    | _=>exact ff h
  | _=>exact ff h
theorem t9{v:V}{a b:Int}(h:n9 v a b=true):∃ i,v=.int i/\a<=i/\i<=b:=by
 cases v with
 | int i=>
  refine c5 (aM.mp (show(decide (a<=i)&&decide (i<=b))=true from h)) λh1 h2=>?_
  exact⟨i,rfl,of_decide_eq_true h1,of_decide_eq_true h2⟩
 | _=>exact ff h
theorem T9{v:V}(h:I0 v=true):∃ x,v=.str x/\m5 x=true:=by
 cases v with
 | str x=>exact⟨x,rfl,h⟩
 | _=>exact ff h
set_option tactic.hygienic true in
theorem P7{z:Lim}{u:Str}(hu:u = "line"∨u = "earlier"∨u = "table"∨u = "choose"):∀ {n:Nat} {v:V},ok z n v=true->∀ y∈f8 n v u,∃ i,y=.int i:=by
 intro n;induction n with
 | zero=>intro v h;exact ff h
 | succ n ih=>
  intro v h;refine p9 (K1 h) λw args q1_=>?_;subst q1_
  refine G9 (G3 h) λm hm hs hf hin=>?_
  obtain rfl:n=m:=by lia
  intro y hy;simp only[E9,au,ch,ai] at hy
  rcases hy with hy | ⟨_,⟨r,hr,rfl⟩,hy⟩
  ·split at hy
   ·rename_i e
    simp only[am,aC,or_false] at hy
    subst hy;have e:w=u:=by simpa using e
    subst e;rcases hu with rfl | rfl | rfl | rfl
    ·rw[Q2] at hf;refine a9 (t9 hf) λi e _=>?_;exact⟨i,e⟩
    ·rw[O7] at hf;refine a9 (t9 hf) λi e _=>?_;exact⟨i,e⟩
    ·rw[P9] at hf;refine a9 (t9 hf) λi e _=>?_;exact⟨i,e⟩
    ·rw[K5] at hf;refine a9 (t9 hf) λi e _=>?_;exact⟨i,e⟩
   ·cases hy
  ·exact ih (hin r hr) y hy
set_option tactic.hygienic true in
theorem aQ5{z:Lim}:∀ {n:Nat} {v:V},ok z n v=true->∀ y∈f8 n v "paper",∃ x,y=.str x/\m5 x=true:=by
 intro n;induction n with
 | zero=>intro v h;exact ff h
 | succ n ih=>
  intro v h;refine p9 (K1 h) λw args q1_=>?_;subst q1_
  refine G9 (G3 h) λm hm hs hf hin=>?_
  obtain rfl:n=m:=by lia
  intro y hy;simp only[E9,au,ch,ai] at hy
  rcases hy with hy | ⟨_,⟨r,hr,rfl⟩,hy⟩
  ·split at hy
   ·rename_i e
    simp only[am,aC,or_false] at hy
    subst hy;have e:w = "paper":=by simpa using e
    subst e;rw[S4] at hf;exact T9 hf
   ·cases hy
  ·exact ih (hin r hr) y hy
noncomputable def NW(u:Str):Prop:=u = "line"∨u = "earlier"∨u = "table"∨u = "choose"∨u = "paper"
theorem aG4{z:Lim}{u:Str}(hu:NW u){n:Nat}{v:V}(h:ok z n v=true):(∀ y∈f8 n v u,n8 y)/\SK (f8 n v u):=by
 rcases hu with hu | hu | hu | hu | hu
 ·have:=P7 (.inl hu) h;exact⟨λy hy=>.inl (this y hy),.of_ints this⟩
 ·have:=P7 (.inr (.inl hu)) h;exact⟨λy hy=>.inl (this y hy),.of_ints this⟩
 ·have:=P7 (.inr (.inr (.inl hu))) h;exact⟨λy hy=>.inl (this y hy),.of_ints this⟩
 ·have:=P7 (.inr (.inr (.inr hu))) h;exact⟨λy hy=>.inl (this y hy),.of_ints this⟩
 ·subst hu
  have:=aQ5 h;exact⟨λy hy=>by refine a9 (this y hy) λx e hx=>?_;exact .inr ⟨x,e,(ak9 hx).1.strOk⟩,.of_strs λy hy=>by refine a9 (this y hy) λx e z_=>?_;exact⟨x,e⟩⟩
theorem A3{l:List V}(h:l.length=1):∃ x,l=[x]:=ei.mp h
theorem H9{l:List V}(h:l.length=2):∃ x y,l=[x,y]:=by
 cases l with
 | nil=>cases h
 | cons x l=>refine c6 (A3 (Nat.succ.inj h)) λy q1_=>?_;subst q1_;exact⟨x,y,rfl⟩
theorem K8{l:List V}(h:l.length=3):∃ x y t,l=[x,y,t]:=by
 cases l with
 | nil=>cases h
 | cons x l=>refine p9 (H9 (Nat.succ.inj h)) λy t q1_=>?_;subst q1_;exact⟨x,y,t,rfl⟩
theorem aB1{z:Lim}{w:Str}{args:List V}(hs:siz w=some ((args.length:Int)+1))(hf:fit z w args=true){x:V}(hx:x∈args):x∈i4 w args∨(∃ i,x=.int i)∨∃ s,x=.str s:=by
 have hm:=Q5 hs;simp only[szs,am,Prod.mk.injEq,aC,or_false] at hm
 rcases hm with ⟨rfl,hn⟩ | ⟨rfl,hn⟩ | ⟨rfl,hn⟩ | ⟨rfl,hn⟩ | ⟨rfl,hn⟩ | ⟨rfl,hn⟩ | ⟨rfl,hn⟩ | ⟨rfl,hn⟩ | ⟨rfl,hn⟩ | ⟨rfl,hn⟩ | ⟨rfl,hn⟩ | ⟨rfl,hn⟩
 ·obtain⟨a,rfl⟩:=A3 (l:=args) (by first | exact hn | lia | (simp only[az] at hn;lia))
  rw[U1] at hf;refine a9 (t9 hf) λi e z_=>?_
  simp at hx;subst hx;exact .inr (.inl ⟨i,e⟩)
 ·obtain⟨a,rfl⟩:=A3 (l:=args) (by first | exact hn | lia | (simp only[az] at hn;lia))
  rw[S4] at hf;refine a9 (T9 hf) λi e z_=>?_
  simp at hx;subst hx;exact .inr (.inr ⟨i,e⟩)
 ·obtain⟨a,rfl⟩:=A3 (l:=args) (by first | exact hn | lia | (simp only[az] at hn;lia))
  rw[Q2] at hf;refine a9 (t9 hf) λi e z_=>?_
  simp at hx;subst hx;exact .inr (.inl ⟨i,e⟩)
 ·obtain⟨a,rfl⟩:=A3 (l:=args) (by first | exact hn | lia | (simp only[az] at hn;lia))
  rw[O7] at hf;refine a9 (t9 hf) λi e z_=>?_
  simp at hx;subst hx;exact .inr (.inl ⟨i,e⟩)
 ·rw[X7];exact .inl hx
 ·rw[T8];exact .inl hx
 ·rw[Z4];exact .inl hx
 ·rw[X4];exact .inl hx
 ·obtain⟨a,b,rfl⟩:=H9 (l:=args) (by first | exact hn | lia | (simp only[az] at hn;lia))
  rw[X1] at hf;refine a9 (t9 hf) λi e z_=>?_
  have e:b=.int i:=e;subst e;rw[I6];simp only[am,aC,or_false] at hx
  rcases hx with rfl | rfl
  ·exact .inl (by simp)
  ·exact .inr (.inl ⟨i,rfl⟩)
 ·obtain⟨a,b,rfl⟩:=H9 (l:=args) (by first | exact hn | lia | (simp only[az] at hn;lia))
  rw[P9] at hf;refine a9 (t9 hf) λi e z_=>?_
  have e:a=.int i:=e;subst e;rw[I9];simp only[am,aC,or_false] at hx
  rcases hx with rfl | rfl
  ·exact .inr (.inl ⟨i,rfl⟩)
  ·exact .inl (by simp)
 ·rw[C2];exact .inl hx
 ·obtain⟨a,b,c,rfl⟩:=K8 (l:=args) (by first | exact hn | lia | (simp only[az] at hn;lia))
  rw[K5] at hf;refine a9 (t9 hf) λi e z_=>?_
  have e:a=.int i:=e;subst e;rw[B9];simp only[am,aC,or_false] at hx
  rcases hx with rfl | rfl | rfl
  ·exact .inr (.inl ⟨i,rfl⟩)
  ·exact .inl (by simp)
  ·exact .inl (by simp)
theorem bZ4{z:Lim}{w:Str}{args:List V}(hs:siz w=some ((args.length:Int)+1))(hf:fit z w args=true){x:V}(hx:x∈args){l:List V}(e:x=.tup l):x∈i4 w args:=by
 rcases aB1 hs hf hx with q | ⟨i,q⟩ | ⟨i,q⟩
 ·exact q
 ·rw[e] at q;cases q
 ·rw[e] at q;cases q
theorem aB0:∀ {l:List Nat} {x:Nat},x∈l->x<=l.sum
 | y::l,x,h=>by
  rw[List.sum_cons];rcases am.mp h with rfl | h
  ·lia
  ·have:=aB0 h;lia
section
variable{z:Lim}{Y:Hp}
theorem Cld.t2{a b:V}(ha:Cld Y a)(hb:Cld Y b):Cld Y (.tup [a,b]):=.tup (by simp) λx hx=>by
 simp only[am,aC,or_false] at hx;rcases hx with rfl | rfl<;>assumption
theorem Cld.t3{a b c:V}(ha:Cld Y a)(hb:Cld Y b)(hc:Cld Y c):Cld Y (.tup [a,b,c]):=.tup (by simp) λx hx=>by
 simp only[am,aC,or_false] at hx;rcases hx with rfl | rfl | rfl<;>assumption
theorem Cld.t4{a b c d:V}(ha:Cld Y a)(hb:Cld Y b)(hc:Cld Y c)(hd:Cld Y d):Cld Y (.tup [a,b,c,d]):=.tup (by simp) λx hx=>by
 simp only[am,aC,or_false] at hx;rcases hx with rfl | rfl | rfl | rfl<;>assumption
theorem GR.cld{see:Int->Prop}{wd:Str->Prop}(hw:∀ x,wd x->m5 x=true){d:Nat}{r:V}(h:GR z see wd d r):Cld Y r:=by
 induction h with
 | num a b=>exact .t2 (.str (by decide)) (.int _)
 | line a=>exact .t2 (.str (by decide)) (.int _)
 | earlier a b=>exact .t2 (.str (by decide)) (.int _)
 | paper a=>exact .t2 (.str (by decide)) (.str (by have:=(ak9 (hw _ a)).2.2;lia))
 | part _ a b ih=>exact .t3 (.str (by decide)) ih (.int _)
 | table _ a b ih=>exact .t3 (.str (by decide)) (.int _) ih
 | twol a _ _ i1 i2=>
  simp only[am,aC,or_false] at a
  exact .t3 (.str (by rcases a with rfl | rfl | rfl | rfl<;>decide)) i1 i2
 | twor a _ _ i1 i2=>
  simp only[am,aC,or_false] at a
  exact .t3 (.str (by rcases a with rfl | rfl | rfl | rfl<;>decide)) i1 i2
 | wherl _ _ _ i1 i2 i3=>exact .t4 (.str (by decide)) i1 i2 i3
 | wherr _ _ _ i1 i2 i3=>exact .t4 (.str (by decide)) i1 i2 i3
 | chol a b _ _ i1 i2=>exact .t4 (.str (by decide)) (.int _) i1 i2
 | chor a b _ _ i1 i2=>exact .t4 (.str (by decide)) (.int _) i1 i2
end
noncomputable def x6(st:Addr)(Y Y':Hp):Prop:=∀ a o,a≠st->Y a=some o->Y' a=some o
theorem x6.sub{st:Addr}{Y zs Y2:Hp}(h:x6 st Y zs)(k:Sub zs Y2):x6 st Y Y2:=λa o ha e=>k a o (h a o ha e)
theorem x6.trans{st:Addr}{Y zs Y2:Hp}(h:x6 st Y zs)(k:x6 st zs Y2):x6 st Y Y2:=λa o ha e=>k a o ha (h a o ha e)
theorem x6.upd{st:Addr}{Y:Hp}{o:AObj}:x6 st Y (upd Y st o):=λa o ha e=>by rw[d8 _ _ ha];exact e
section
variable{g:G}{sc:Scope}{vs:List Str}{d:Nat}{Z:List (Option V)}{Y:Hp}
end
theorem Few.lt{z:Lim}{r:V}(h:Few z r)(u:Str)(hk:ok z 8 r=true):(f8 8 r u).length<64:=bx (h 8 u hk) (by decide)
section
variable{g:G}{sc:Scope}{vs:List Str}{d:Nat}{q:Bool}{F:Blk}{Z:List (Option V)}{Y:Hp}{Q:V->Hp->Prop}{X:Str->Hp->Prop}
end
noncomputable def toI(v:V):Int:=match v with
 | .int i=>i
 | _=>0
noncomputable def toS(v:V):Str:=match v with
 | .str s=>s
 | _=>Str.ofString ""
noncomputable def O5(n f:Int)(v:V):Int:=match v with
 | .tup l=>if toI (arg l 0)<=n then toI (arg l 1)+(n-toI (arg l 0))*toI (arg l 2) / 100 else f
 | _=>f
noncomputable def atN(t:V)(n:Int):Int:=match t with
 | .tup l=>l.foldl (O5 n) 0
 | _=>0
structure Yr where
 P:List (Str×Int)
 E:List Int
 T:List Bool
 tabs:List V
noncomputable def dS(P:List (Str×Int)):List (Str×V):=P.map λp=>(p.1,.int p.2)
noncomputable def U9(P:List (Str×Int))(x:Str):Int:=toI ((j9 (dS P) x).getD (.int 0))
noncomputable def lf(y:Yr)(f:Int->Int)(w:Str)(a:V):Int:=
 if w == "number" then toI a else if w == "paper" then U9 y.P (toS a) else if w == "line" then f (toI a) else y.E.getD (toI a).toNat 0
noncomputable def J9(w:Str)(a b:Int):Int:=if w == "add" then a+b else if w == "take" then a-b else if w == "least" then min a b else max a b
noncomputable def wv(y:Yr)(f:Int->Int):Nat->V->Int
 | 0,_=>0
 | n+1,.tup (.str w::args)=>
  if V6 w then lf y f w (arg args 0)
  else if w == "part" then wv y f n (arg args 0)*toI (arg args 1) / 100
  else if w == "table" then atN (y.tabs.getD (toI (arg args 0)).toNat .none) (wv y f n (arg args 1))
  else if w == "where" then(if 0<wv y f n (arg args 0) then wv y f n (arg args 1) else wv y f n (arg args 2))
  else if w == "choose" then(if y.T.getD (toI (arg args 0)).toNat false then wv y f n (arg args 2) else wv y f n (arg args 1))
  else J9 w (wv y f n (arg args 0)) (wv y f n (arg args 1))
 | _+1,_=>0
section
variable{y:Yr}{f:Int->Int}{n:Nat}
theorem Z9{i:Int}:wv y f (n+1) (.tup [.str "number",.int i])=i:=(if_pos (by decide +kernel)).trans (if_pos (by decide +kernel))
theorem Ya2{x:Str}:wv y f (n+1) (.tup [.str "paper",.str x])=U9 y.P x:=(if_pos (by decide +kernel)).trans ((if_neg (by decide +kernel)).trans (if_pos (by decide +kernel)))
theorem V2{i:Int}:wv y f (n+1) (.tup [.str "line",.int i])=f i:=(if_pos (by decide +kernel)).trans ((if_neg (by decide +kernel)).trans ((if_neg (by decide +kernel)).trans (if_pos (by decide +kernel))))
theorem Z5{i:Int}:wv y f (n+1) (.tup [.str "earlier",.int i])=y.E.getD i.toNat 0:=(if_pos (by decide +kernel)).trans ((if_neg (by decide +kernel)).trans ((if_neg (by decide +kernel)).trans (if_neg (by decide +kernel))))
theorem U4{r:V}{i:Int}:wv y f (n+1) (.tup [.str "part",r,.int i])=wv y f n r*i / 100:=(if_neg (by decide +kernel)).trans (if_pos (by decide +kernel))
theorem aa2{r:V}{i:Int}:wv y f (n+1) (.tup [.str "table",.int i,r])=atN (y.tabs.getD i.toNat .none) (wv y f n r):=(if_neg (by decide +kernel)).trans ((if_neg (by decide +kernel)).trans (if_pos (by decide +kernel)))
theorem Y9{r t u:V}:wv y f (n+1) (.tup [.str "where",r,t,u])=if 0<wv y f n r then wv y f n t else wv y f n u:=(if_neg (by decide +kernel)).trans ((if_neg (by decide +kernel)).trans ((if_neg (by decide +kernel)).trans (if_pos (by decide +kernel))))
theorem W6{r t:V}{i:Int}:wv y f (n+1) (.tup [.str "choose",.int i,r,t])=if y.T.getD i.toNat false then wv y f n t else wv y f n r:=(if_neg (by decide +kernel)).trans ((if_neg (by decide +kernel)).trans ((if_neg (by decide +kernel)).trans ((if_neg (by decide +kernel)).trans (if_pos (by decide +kernel)))))
inductive W2:Str->Prop
 | add:W2 "add"
 | take:W2 "take"
 | least:W2 "least"
 | most:W2 "most"
theorem X0{w:Str}{r t:V}(h:W2 w):wv y f (n+1) (.tup [.str w,r,t])=J9 w (wv y f n r) (wv y f n t):=by
 cases h<;>exact(if_neg (by decide +kernel)).trans ((if_neg (by decide +kernel)).trans ((if_neg (by decide +kernel)).trans ((if_neg (by decide +kernel)).trans (if_neg (by decide +kernel)))))
end
inductive Nd(z:Lim)(n:Nat):V->Prop
 | num (i:Int):Nd z n (.tup [.str "number",.int i])
 | paper (x:Str):Nd z n (.tup [.str "paper",.str x])
 | line (i:Int) (h0:0<=i) (h1:i<z.L):Nd z n (.tup [.str "line",.int i])
 | earlier (i:Int) (h0:0<=i) (h1:i<z.L):Nd z n (.tup [.str "earlier",.int i])
 | part (r:V) (i:Int) (hr:ok z n r=true) (h0:0<=i) (h1:i<=100):Nd z n (.tup [.str "part",r,.int i])
 | table (i:Int) (r:V) (h0:0<=i) (h1:i<z.T) (hr:ok z n r=true):Nd z n (.tup [.str "table",.int i,r])
 | two (w:Str) (r t:V) (h:W2 w) (hr:ok z n r=true) (ht:ok z n t=true):Nd z n (.tup [.str w,r,t])
 | wher (r t u:V) (hr:ok z n r=true) (ht:ok z n t=true) (hu:ok z n u=true):Nd z n (.tup [.str "where",r,t,u])
 | choo (i:Int) (r t:V) (h0:0<=i) (h1:i<z.C) (hr:ok z n r=true) (ht:ok z n t=true):Nd z n (.tup [.str "choose",.int i,r,t])
section
variable{z:Lim}{n:Nat}{args:List V}
theorem M5{x:V}{l:List V}:arg (x::l) 0=x:=rfl
theorem bR1(hn:(args.length:Int)+1=2)(hf:fit z "number" args=true):Nd z n (.tup (.str "number" :: args)):=by
 obtain⟨x,rfl⟩:=A3 (l:=args) (by lia)
 rw[U1,M5] at hf;refine a9 (t9 hf) λi q1_ z_=>?_;subst q1_
 exact .num i
theorem bx7(hn:(args.length:Int)+1=2)(hf:fit z "paper" args=true):Nd z n (.tup (.str "paper" :: args)):=by
 obtain⟨x,rfl⟩:=A3 (l:=args) (by lia)
 rw[S4,M5] at hf;refine a9 (T9 hf) λi q1_ z_=>?_;subst q1_
 exact .paper i
theorem bC0(hn:(args.length:Int)+1=2)(hf:fit z "line" args=true):Nd z n (.tup (.str "line" :: args)):=by
 obtain⟨x,rfl⟩:=A3 (l:=args) (by lia)
 rw[Q2,M5] at hf;refine i8 (t9 hf) λi q1_ h0 h1=>?_;subst q1_
 exact .line i h0 (ci h1)
theorem bA4(hn:(args.length:Int)+1=2)(hf:fit z "earlier" args=true):Nd z n (.tup (.str "earlier" :: args)):=by
 obtain⟨x,rfl⟩:=A3 (l:=args) (by lia)
 rw[O7,M5] at hf;refine i8 (t9 hf) λi q1_ h0 h1=>?_;subst q1_
 exact .earlier i h0 (ci h1)
theorem V9{w:Str}(hw:W2 w)(hi:∀ a,i4 w a=a)(hn:(args.length:Int)+1=3)(hin:∀ x∈i4 w args,ok z n x=true):Nd z n (.tup (.str w::args)):=by
 obtain⟨x,y,rfl⟩:=H9 (l:=args) (by lia)
 rw[hi] at hin;exact .two w x y hw (hin _ (.head _)) (hin _ (.tail _ (.head _)))
theorem bh2(hn:(args.length:Int)+1=3)(hf:fit z "part" args=true)(hin:∀ x∈i4 "part" args,ok z n x=true):Nd z n (.tup (.str "part" :: args)):=by
 obtain⟨x,y,rfl⟩:=H9 (l:=args) (by lia)
 rw[X1] at hf;refine i8 (t9 hf) λi e h0 h1=>?_
 obtain rfl:y=.int i:=e;rw[I6] at hin;exact .part x i (hin x (.head _)) h0 h1
theorem aV5(hn:(args.length:Int)+1=3)(hf:fit z "table" args=true)(hin:∀ x∈i4 "table" args,ok z n x=true):Nd z n (.tup (.str "table" :: args)):=by
 obtain⟨x,y,rfl⟩:=H9 (l:=args) (by lia)
 rw[P9,M5] at hf;refine i8 (t9 hf) λi q1_ h0 h1=>?_;subst q1_
 rw[I9] at hin;exact .table i y h0 (ci h1) (hin y (.head _))
theorem bJ4(hn:(args.length:Int)+1=4)(hin:∀ x∈i4 "where" args,ok z n x=true):Nd z n (.tup (.str "where" :: args)):=by
 obtain⟨x,y,t,rfl⟩:=K8 (l:=args) (by lia)
 rw[C2] at hin;exact .wher x y t (hin _ (.head _)) (hin _ (.tail _ (.head _))) (hin _ (.tail _ (.tail _ (.head _))))
theorem cg6(hn:(args.length:Int)+1=4)(hf:fit z "choose" args=true)(hin:∀ x∈i4 "choose" args,ok z n x=true):Nd z n (.tup (.str "choose" :: args)):=by
 obtain⟨x,y,t,rfl⟩:=K8 (l:=args) (by lia)
 rw[K5,M5] at hf;refine i8 (t9 hf) λi q1_ h0 h1=>?_;subst q1_
 rw[B9] at hin;exact .choo i y t h0 (ci h1) (hin _ (.head _)) (hin _ (.tail _ (.head _)))
end
theorem L7{z:Lim}{n:Nat}{v:V}(h:ok z (n+1) v=true):Nd z n v:=by
 refine p9 (K1 h) λw args q1_=>?_;subst q1_
 refine G9 (G3 h) λm hm hs hf hin=>?_
 obtain rfl:n=m:=Nat.succ.inj hm;have hm:=Q5 hs;clear h hs;simp only[szs,am,Prod.mk.injEq,aC,or_false] at hm
 rcases hm with ⟨rfl,hn⟩ | ⟨rfl,hn⟩ | ⟨rfl,hn⟩ | ⟨rfl,hn⟩ | ⟨rfl,hn⟩ | ⟨rfl,hn⟩ | ⟨rfl,hn⟩ | ⟨rfl,hn⟩ | ⟨rfl,hn⟩ | ⟨rfl,hn⟩ | ⟨rfl,hn⟩ | ⟨rfl,hn⟩
 ·exact bR1 hn hf
 ·exact bx7 hn hf
 ·exact bC0 hn hf
 ·exact bA4 hn hf
 ·exact V9 .add X7 hn hin
 ·exact V9 .take T8 hn hin
 ·exact V9 .least Z4 hn hin
 ·exact V9 .most X4 hn hin
 ·exact bh2 hn hf hin
 ·exact aV5 hn hf hin
 ·exact bJ4 hn hin
 ·exact cg6 hn hf hin
theorem E8{n:Nat}{w:Str}{args:List V}{r:V}{u:Str}(hr:r∈i4 w args):∀ y∈f8 n r u,y∈f8 (n+1) (.tup (.str w::args)) u:=λy hy=>by
 rw[E9];exact au.mpr (.inr (ch.mpr ⟨_,ai.mpr ⟨r,hr,rfl⟩,hy⟩))
theorem bb1{n:Nat}{i:Int}:V.int i∈f8 (n+1) (.tup [.str "line",.int i]) "line":=by
 rw[E9,if_pos (by decide +kernel)]
 exact au.mpr (.inl (.head _))
noncomputable def Nms(p:Int->Prop)(n:Nat)(v:V):Prop:=∀ i,V.int i∈f8 n v "line"->p i
section
variable{p:Int->Prop}{n:Nat}{r t u:V}{i:Int}{w:Str}
theorem Nms.line(h:Nms p (n+1) (.tup [.str "line",.int i])):p i:=h i bb1
theorem Nms.part(h:Nms p (n+1) (.tup [.str "part",r,.int i])):Nms p n r:=λj hj=>h j (E8 (by rw[I6];simp) _ hj)
theorem Nms.table(h:Nms p (n+1) (.tup [.str "table",.int i,r])):Nms p n r:=λj hj=>h j (E8 (by rw[I9];simp) _ hj)
theorem W2.ins(h:W2 w)(a:List V):i4 w a=a:=by
 cases h
 ·exact X7 a
 ·exact T8 a
 ·exact Z4 a
 ·exact X4 a
theorem Nms.two1(hw:W2 w)(h:Nms p (n+1) (.tup [.str w,r,t])):Nms p n r:=λj hj=>h j (E8 (by rw[hw.ins];simp) _ hj)
theorem Nms.two2(hw:W2 w)(h:Nms p (n+1) (.tup [.str w,r,t])):Nms p n t:=λj hj=>h j (E8 (by rw[hw.ins];simp) _ hj)
theorem Nms.wher1(h:Nms p (n+1) (.tup [.str "where",r,t,u])):Nms p n r:=λj hj=>h j (E8 (by rw[C2];simp) _ hj)
theorem Nms.wher2(h:Nms p (n+1) (.tup [.str "where",r,t,u])):Nms p n t:=λj hj=>h j (E8 (by rw[C2];simp) _ hj)
theorem Nms.wher3(h:Nms p (n+1) (.tup [.str "where",r,t,u])):Nms p n u:=λj hj=>h j (E8 (by rw[C2];simp) _ hj)
theorem Nms.choo1(h:Nms p (n+1) (.tup [.str "choose",.int i,r,t])):Nms p n r:=λj hj=>h j (E8 (by rw[B9];simp) _ hj)
theorem Nms.choo2(h:Nms p (n+1) (.tup [.str "choose",.int i,r,t])):Nms p n t:=λj hj=>h j (E8 (by rw[B9];simp) _ hj)
end
theorem ad9{z:Lim}{y:Yr}{f f':Int->Int}:∀ {n:Nat} {v:V},ok z n v=true->Nms (λi=>f i=f' i) n v->wv y f n v=wv y f' n v:=by
 intro n;induction n with
 | zero=>intro v h;exact ff h
 | succ n ih=>
  intro v hk h;cases L7 hk with
  | num i=>rw[Z9,Z9]
  | paper x=>rw[Ya2,Ya2]
  | line i=>rw[V2,V2];exact h.line
  | earlier i=>rw[Z5,Z5]
  | part r i hr=>rw[U4,U4,ih hr h.part]
  | table i r _ _ hr=>rw[aa2,aa2,ih hr h.table]
  | two w r t hw hr ht=>rw[X0 hw,X0 hw,ih hr (h.two1 hw),ih ht (h.two2 hw)]
  | wher r t u hr ht hu=>rw[Y9,Y9,ih hr h.wher1,ih ht h.wher2,ih hu h.wher3]
  | choo i r t _ _ hr ht=>rw[W6,W6,ih hr h.choo1,ih ht h.choo2]
noncomputable def ak6(rules:List V)(y:Yr):Nat->Int->Int
 | 0,_=>0
 | k+1,i=>wv y (ak6 rules y k) 8 (rules.getD i.toNat .none)
noncomputable def sol(rules:List V)(y:Yr)(rk:Int->Nat)(i:Int):Int:=ak6 rules y (rk i+1) i
structure Lnk(z:Lim)(rules:List V)(rk:Int->Nat):Prop where
 ok:∀ (i:Nat),i<rules.length->Internal.ok z 8 (rules.getD i .none)=true
 dn:∀ (i:Nat),i<rules.length->Nms (λj=>(0<=j/\j<rules.length)/\rk j<rk i) 8 (rules.getD i .none)
theorem ch6{z:Lim}{rules:List V}{y:Yr}{rk:Int->Nat}(h:Lnk z rules rk):∀ (k:Nat) (i:Int),0<=i->i<rules.length->rk i<k->ak6 rules y k i=sol rules y rk i:=by
 intro k;induction k using cV with
 | ind k ih=>
  intro i h0 h1 hk;cases k with
  | zero=>exact absurd hk (bW _)
  | succ m=>
   have hi:i.toNat<rules.length:=by lia
   have e:((i.toNat:Nat):Int)=i:=bu h0;refine ad9 (h.ok _ hi) λj hj=>?_
   obtain⟨⟨j0,j1⟩,j2⟩:=h.dn _ hi j hj;rw[e] at j2;rw[ih m (bp _) j j0 j1 (by lia),ih (rk i) (by lia) j j0 j1 j2]
theorem ao2{z:Lim}{rules:List V}{y:Yr}{rk:Int->Nat}(h:Lnk z rules rk){i:Nat}(hi:i<rules.length):wv y (sol rules y rk) 8 (rules.getD i .none)=sol rules y rk i:=by
 refine ad9 (h.ok _ hi) λj hj=>?_
 obtain⟨⟨j0,j1⟩,j2⟩:=h.dn _ hi j hj;exact(ch6 h _ j j0 j1 j2).symm
theorem aH7{P:List (Str×Int)}{x:Str}:(j9 (dS P) x).getD (.int 0)=.int (U9 P x):=by
 unfold U9;cases e:j9 (dS P) x with
 | none=>rfl
 | some v=>
  unfold j9 at e;refine a9 (aA.mp e) λp hp q1_=>?_;subst q1_
  obtain⟨q,-,rfl⟩:=ai.mp (cz hp);rfl
noncomputable def vbm:List Value:=[.type "ValueError",.type "Exception",.type "BaseException",.type "object"]
noncomputable def z8:List Str:=["__getattribute__","__getattr__","__class__"]
class inductive OwnTailC (h:Heap) (bmB:List Value):List Value->Prop
 | base:OwnTailC h bmB bmB
 | own {A:Addr} {c0:Value} {dd:Option Addr} {cd:ClassData} {sl:Array (Option Value)} {mA:Str->Option Value} {tl:List Value} :
   h.get? A=some {cls:=c0,dict:=dd,data:=.cls cd,slots:=sl}->h.Ns cd.ns mA->(∀ n∈z8,mA n=none)->OwnTailC h bmB tl->OwnTailC h bmB (.ref A::tl)
def XOb(g:G)(C:Addr)(bm:List Value):Prop:=
 ∀ P_:Prop,(∀ (N:Addr) (nm q:Str) (bs:List Value) (hdct:Bool) (sn:List Str) (sub:List Value) (ab:Bool) (col:Option Bool) (dd:Option Addr) (k0 k1 k2 k3 k5:Option Value) (mN:Str->Option Value)
  (hC:g.h₀.get? C=some (excClassObj nm q C N bs bm hdct sn sub ab col dd k0 k1 k2 k3 k5 "ValueError.__new__")) (hN:g.h₀.Ns N mN) (hi:mN "__init__" = none) (hc:∀ n∈z8,mN n=none) (T:OwnTail g.h₀ vbm bm) (U:OwnTailC g.h₀ vbm bm),P_)->P_
structure XC(g:G)(x:Str)(C:Addr)(bm:List Value):Prop where
 bound:g.mg x=some (.ref C)
 obj:XOb g C bm
section
variable{g:G}{F:Blk}{Z:List (Option V)}{Y:Hp}{QS:d6}{XS:j3}
theorem ci1{x:Str}{np cpos pos:Pos}{args:List Expr}{C:Addr}{bm:List Value}(hc:XC g x C bm)(hk:F.sc.names.lookup x=some .globalImplicit)(hq:F.q=true)(hd:(x==("__debug__" : Str))=false)
  (h:Evs g F args Z Y (λvs zs=>vs.length<=sizeLine/\XS x Z zs) (λx zs=>XS x Z zs)):Ex g F (.Raise (some (.Call (.Name x np) args [] cpos)) none pos) Z Y QS XS:=(λA env s I=>by
 refine hc.obj _ ?_;rintro N nm q bs hdct sn sub ab col dd k0 k1 k2 k3 k5 mN hC hN hni-T -;refine c5 (h A env s cpos I) λhw hp=>?_
 have FB:ExcBaseFacts "ValueError" "ValueError.__new__" "ValueError.__init__" vbm:=PySem.F.excBase_ValueError;refine wpAny_Raise_call_subT (C:=C) (nm:=nm) (q:=q) (N:=N) (bs:=bs) (bm:=bm) (hdct:=hdct) (sn:=sn) (sub:=sub) (ab:=ab) (col:=col) (dd:=dd) (k0:=k0) (k1:=k1) (k2:=k2) (k3:=k3) (k5:=k5)
  FB (mN:=mN) (T.hasType FB.hasBase) (I.quiet hq) hp hni
  (Calls.Name_function_global I.fn (by show env.scope.names.lookup x=_;rw[I.scope];exact hk) (aW (by rw[I.glob];exact g.ns.keeps I.sim.stays) hc.bound ⟨rfl,?_⟩) hd)
 refine x9 hp (K7 hw (λvs sv Vs zs rs I1 st1 hq=>?_) λz_ z_ p=>p.toS)
 refine⟨rfl,by rw[rs.length];exact hq.1,I1.sim.stays _ _ hC,hN.keeps I1.sim.stays,T.keeps I1.sim.stays,λh' e hm=>?_⟩
 refine i8 hm.there λt he z_ z_=>?_
 have st:Step (inF A) f2 zs zs sv {sv with heap:=h'}:=Step.grow (tk:=sv.toks) hm.keeps
 have st2:=st1.trans st;refine(λz_ k_=>k_ x Z zs (.made e _ (λz_ k_=>k_ C _ _ rfl (st1.nix hm.new) ?_ ?_ he rfl hc.bound rfl rfl) rfl) (I1.keep st (I1.sim.grow hm.keeps)) (st2.mono λz_ h=>h.elim) hq.2)
 ·cases q:g.h₀.get? e with
  | none=>rfl
  | some o=>have:=I1.sim.stays _ _ q;rw[hm.new] at this;exact f9 this
 ·cases q:zs e with
  | none=>rfl
  | some o=>refine c6 ((I1.sim.objs _ _ q).1.has) λob e2=>?_;rw[hm.new] at e2;exact f9 e2)
end
section
variable{M:Model}{A:Around}{E:Value->Shared->Prop}
theorem ch9{C N C' N':Addr}{nm q nm' q':Str}{bs bm bs' bm':List Value}{hdct hdct':Bool}{sn sn':List Str}{sub sub':List Value}{ab ab':Bool}{col col':Option Bool}{dd dd':Option Addr}{k0 k1 k2 k3 k5 k0' k1' k2' k3' k5':Option Value}{newId newId':String}
  {s:Shared} {e:Addr} {oe:Obj} {b:Bool} {Q:Bool->Shared->Prop} (hC:s.heap.get? C=some (excClassObj nm q C N bs bm hdct sn sub ab col dd k0 k1 k2 k3 k5 newId))
  (hC':s.heap.get? C'=some (excClassObj nm' q' C' N' bs' bm' hdct' sn' sub' ab' col' dd' k0' k1' k2' k3' k5' newId')) (he:s.heap.get? e=some oe) (hcls:oe.cls=.ref C) (hbase:bm'.contains (.type "BaseException")=true)
  (hb:(Value.ref C::bm).contains (.ref C')=b) (hq:Q b s):wpAny M A (excMatches (.ref e) (.ref C')) Q E s:=by
 obtain⟨h,g,d,t,os⟩:=s;have hcB:(Value.ref C'::bm').contains (.type "BaseException")=true:=by rw[bX,hbase,Bool.or_true]
 have f:=tc_notTuple;unfold excMatches
 repeat (first | (with_reducible refine wpAny_loadPart_at he ?_;rw[hcls]) | with_reducible refine wpAny_loadPart_at hC' ?_ | (with_reducible refine wpAny_isSubtype_exc hC' ?_;rw[hcB]) | (with_reducible refine wpAny_isSubtype_exc hC ?_;rw[hb]) | wp_step)
 cases b<;>first | exact hq | (wp_walk;exact hq)
end
theorem ai2{g:G}{x y:Str}{C C':Addr}{bm bm':List Value}(hx:XC g x C bm)(hy:XC g y C' bm'){A:Around}{E:Value->Shared->Prop}{s:Shared}{a:Addr}{oe:Obj}{b:Bool}{Q:Bool->Shared->Prop}(st:∀ b o,g.h₀.get? b=some o->s.heap.get? b=some o)(ho:s.heap.get? a=some oe)(hc:oe.cls=.ref C)
  (hb:(Value.ref C::bm).contains (.ref C')=b) (h:Q b s):wpAny (model g.prog g.w) A (excMatches (.ref a) (.ref C')) Q E s:=by
 refine hx.obj _ ?_;rintro N nm q bs hdct sn sub ab col dd k0 k1 k2 k3 k5 mN hC hN hni-T -;refine hy.obj _ ?_;rintro N' nm' q' bs' hdct' sn' sub' ab' col' dd' k0' k1' k2' k3' k5' mN' hC' hN' hni'-T' -;exact ch9 (st _ _ hC) (st _ _ hC') ho hc (T'.hasType PySem.F.excBase_ValueError.hasBase) hb h
section
variable{g:G}{F:Blk}{Z:List (Option V)}{Y:Hp}{QS:d6}{XS:j3}
noncomputable def Blk.loud(F:Blk):Blk:={F with q:=false}
theorem Inv.loud{A:Around}{env:Env}{s:Shared}(e:Option Value)(I:Inv g F A env Z Y s):Inv g F.loud (A.mark e) env Z Y s:=by
 obtain⟨h1,h2,h3,h4,h5,h6,h7,h8,h9,h10,h11,h12⟩:=I;refine⟨h1,h2,h3,h4,h5,h6,λq=>(nomatch q),h8,h9,h10,h11,?_⟩
 refine h12 _ ?_;clear h12;rintro e0 l ha hf all;exact(λz_ k_=>k_ e0 l ha hf all)
theorem Inv.calm{A:Around}{env:Env}{s s':Shared}{Z':List (Option V)}{Y':Hp}{e:Option Value}(I:Inv g F A env Z Y s)(J:Inv g F.loud (A.mark e) env Z' Y' s'):Inv g F A env Z' Y' s':=by
 obtain⟨h1,h2,h3,h4,h5,h6,-,h8,h9,h10,h11,h12⟩:=J;refine⟨h1,h2,h3,h4,h5,h6,I.quiet,h8,h9,h10,h11,?_⟩;refine h12 _ ?_;clear h12;rintro e0 l ha hf all;exact(λz_ k_=>k_ e0 l ha hf all)
def Hnd(g:G)(F:Blk)(hs:List ExceptHandler)(x:Str)(Z:List (Option V))(Y:Hp)(Q:d6)(X:j3):Prop:=
 ∀ A env s sx sy e,Inv g F A env Z Y s->Step (inF A) (i9 env) sx Y sy s->E5 g e x sy.heap Y s.heap .none->wpAny (model g.prog g.w) A (handleBy e env hs) (H8 g F A env sx sy Q) (A4 g F A env sx sy X) s
theorem bF9{x:Str}(h:XS x Z Y):Hnd g F [] x Z Y QS XS:=(λA env s sx sy e I st qz=>by
 refine l6 I.frs.frame λv l L h1 h2 h3=>?_
 refine wpAny_handleBy_nil ?_;unfold PySem.passOn;have F2':=qz;refine qz _ ?_;clear qz;rintro a vs z T oT ts e1 - - - - - - -;refine z _ ?_;clear z;rintro C oe a0 rfl n b hs ho hc hx hd h0;refine wpAny_bind (wpAny_field ho hd e1 ?_);rw[if_neg (show ¬ ((Value.ref T==Value.none)=true) from by simp)]
 refine wpAny_bind (N8 (fo:=env.frame) st I.sim F2' λh₃ W F₃=>?_)
 have I3:=I.went W;refine W _ ?_;clear W;rintro y3 m3 - -;rw[h3] at F₃;exact wpAny_throw (λz_ k_=>k_ x Z Y (.on _ F₃ (.inr ⟨l,v,L,h1,h2,rfl⟩)) I3 y3 h))
theorem cc9{x y:Str}{C C':Addr}{bm bm':List Value}{np pos:Pos}{nme:Option Str}{suite:List Stmt}{rest:List ExceptHandler}(hx:XC g x C bm)(hy:XC g y C' bm')(hk:F.sc.names.lookup y=some .globalImplicit)(hd:(y==("__debug__" : Str))=false)
  (hb:(Value.ref C::bm).contains (.ref C')=false) (h:Hnd g F rest x Z Y QS XS):Hnd g F (.ExceptHandler (some (.Name y np)) nme suite pos::rest) x Z Y QS XS:=(λA env s sx sy e I st qz=>by
 have F2':=qz;refine qz _ ?_;clear qz;rintro a vs z T oT ts e1 - - - - - - -;refine z _ ?_;clear z;rintro C₁ oe a0 rfl n b hs ho hc hx1 hd' h0;obtain rfl:C₁=C:=by rw[hx.bound] at hx1;cases hx1;rfl
 refine wpAny_handleBy_cons (codeAny_handlers_test (Calls.Name_function_global I.fn (by show env.scope.names.lookup y=_;rw[I.scope];exact hk) (aW (by rw[I.glob];exact g.ns.keeps I.sim.stays) hy.bound ?_) hd)) (by intro q;cases q)
 exact ai2 hx hy I.sim.stays ho hc hb (h A env s sx sy _ I st F2'))
theorem aP1{x y:Str}{C C':Addr}{bm bm':List Value}{np pos:Pos}{b0:Stmt}{suite:List Stmt}{rest:List ExceptHandler}(hx:XC g x C bm)(hy:XC g y C' bm')(hk:F.sc.names.lookup y=some .globalImplicit)(hd:(y==("__debug__" : Str))=false)
  (hb:(Value.ref C::bm).contains (.ref C')=true) (h:Exs g F.loud (b0::suite) Z Y QS λz_ z_ z_=>False):Hnd g F (.ExceptHandler (some (.Name y np)) none (b0::suite) pos::rest) x Z Y QS XS:=(λA env s sx sy e I st qz=>by
 have F2':=qz;refine qz _ ?_;clear qz;rintro a vs z T oT ts e1 - - - - - - -;refine z _ ?_;clear z;rintro C₁ oe a0 rfl n b hs ho hc hx1 hd' h0;obtain rfl:C₁=C:=by rw[hx.bound] at hx1;cases hx1;rfl
 refine wpAny_handleBy_cons (codeAny_handlers_test (Calls.Name_function_global I.fn (by show env.scope.names.lookup y=_;rw[I.scope];exact hk) (aW (by rw[I.glob];exact g.ns.keeps I.sim.stays) hy.bound ?_) hd)) (by intro q;cases q)
 refine ai2 hx hy I.sim.stays ho hc hb ?_;refine codeAny_handlers_suite (N8 (A:=A.mark (some (.ref a))) (fo:=none) st I.sim F2' λh3 W F₃=>?_)
 have W':N0 g A (i9 env) sx Y sy s h3:=by refine W _ ?_;clear W;rintro y m k t;exact(λz_ k_=>k_ y m k t)
 have I3:=I.went W';refine W' _ ?_;clear W';rintro y3 m3 - -;refine wpAny_mono (h _ env _ (I3.loud _)) (λf s4 p=>?_) λz_ z_ p=>p.no
 refine p _ ?_;clear p;rintro f' Z' Y' r I4 st4 q;exact(λz_ k_=>k_ f' Z' Y' r (I.calm I4) (y3.trans st4) q))
theorem by8{A:Around}{env:Env}{s:Shared}{n:Str}{i:Nat}{pos:Pos}{QU:Unit->Shared->Prop}{E:Value->Shared->Prop}(I:Inv g F A env Z Y s)(hi:F.vars[i]?=some n)(hl:F.sc.names.lookup n=some .local)
  (h:∀ s',Inv g F A env (List.replicate F.vars.length none) Y s'->Step (inF A) (i9 env) Y Y s s'->QU () s'):wpAny (model g.prog g.w) A (do bindName env n .none;unbindBehindTheSuite env n pos) QU E s:=by
 refine a9 I.loc.ns λm hn hm=>?_
 refine l6 (id hn) λoL es ep hoL hdL hkL=>?_
 refine wpAny_nameGoes (by unfold Env.kindOf;rw[I.scope];exact hl) hn (by rw[I.fn];rfl) λh' m' hn' hs'=>?_
 have tu:l8 s.heap h':=N5 hn hs';have st:Step (inF A) (i9 env) Y Y s {s with heap:=h',toks:=s.toks+1}:=by
  refine l6 (id hn') λo' es' ep' ho' hd' z_=>?_
  refine⟨⟨rfl,rfl⟩,λb o e=>?_,λb o e hY ho=>⟨o,(hs'.2 b λq=>ho (.inl q)).trans e,.inl rfl⟩,tu,λz_ z_ z_ q=>q⟩
  by_cases hb:b=env.locals
  ·subst hb
   exact⟨o',ho',λz_=>⟨_,_,hd'⟩⟩
  ·exact⟨o,(hs'.2 b hb).trans e,id⟩
 refine h _ ?_ st;have ne:∀ a o,Y a=some o->a≠env.locals:=λa o e q=>by rw[q,I.loc.free _ (.inl rfl)] at e;exact f9 e
 refine⟨I.scope,I.fn,I.glob,I.bltn,I.room,I.units,I.quiet,⟨λb o e=>?_,λa o e=>⟨(I.sim.objs a o e).1.keep tu λob eb=>(hs'.2 a (ne a o e)).trans eb,(I.sim.objs a o e).2⟩⟩,
  ⟨bY ..,⟨m',hn',λj y u hj hu=>?_⟩,I.loc.free,λy c hc=>?_,I.loc.apart,I.loc.other⟩,I.base,I.nd,I.frs.step st⟩
 ·exact(hs'.2 b (λq=>by rw[q,I.base _ (.inl rfl)] at e;exact f9 e)).trans (I.sim.stays b o e)
 ·have hu':u=none:=by
   rw[dN] at hu
   split at hu
   ·exact(Option.some.inj hu).symm
   ·exact f9 hu
  subst hu';have hjlt:j<Z.length:=by rw[I.loc.len];exact(aj.mp hj).1
  rcases hm j y _ hj (ae hjlt) with ⟨hk',e'⟩ | ⟨hk',c,r0,hc,hcell,e'⟩
  ·exact .inl ⟨hk',λW hW=>by exact f9 hW⟩
  ·exact .inr ⟨hk',c,r0,hc,hcell.sameBut hs' (I.loc.other _ _ hc),λW hW=>by exact f9 hW⟩
 ·refine c6 (I.loc.live y c hc) λv hv=>?_
  exact⟨v,hv.sameBut hs' (I.loc.other y c hc)⟩
theorem bD0{x y:Str}{C C':Addr}{bm bm':List Value}{np pos:Pos}{n:Str}{i:Nat}{w:Option V}{b0:Stmt}{suite:List Stmt}{rest:List ExceptHandler}(hx:XC g x C bm)(hy:XC g y C' bm')(hk:F.sc.names.lookup y=some .globalImplicit)(hd:(y==("__debug__" : Str))=false)
  (hb:(Value.ref C::bm).contains (.ref C')=true) (hi:F.vars[i]?=some n) (hw:Z[i]?=some w) (hl:F.sc.names.lookup n=some .local)
  (h:∀ a,Y a=none->Exs g F.loud (b0::suite) (Z.set i (some (.ref a))) (upd Y a (.ex x)) (λf z_ Y'=>QS f (List.replicate F.vars.length none) Y') λz_ z_ z_=>False):Hnd g F (.ExceptHandler (some (.Name y np)) (some n) (b0::suite) pos::rest) x Z Y QS XS:=(λA env s sx sy e I st qz=>by
 have F2':=qz;refine qz _ ?_;clear qz;rintro a vs z T oT ts e1 - - - - - - -;refine z _ ?_;clear z;rintro C₁ oe a0 rfl hn hbb hs ho hc hx1 hd' h0;obtain rfl:C₁=C:=by rw[hx.bound] at hx1;cases hx1;rfl
 refine wpAny_handleBy_cons (codeAny_handlers_test (Calls.Name_function_global I.fn (by show env.scope.names.lookup y=_;rw[I.scope];exact hk) (aW (by rw[I.glob];exact g.ns.keeps I.sim.stays) hy.bound ?_) hd)) (by intro q;cases q)
 refine ai2 hx hy I.sim.stays ho hc hb ?_;refine codeAny_handlers_suite_as (N8 (A:=A.mark (some (.ref a))) (fo:=none) st I.sim F2' λh3 W F₃=>?_)
 have W':N0 g A (i9 env) sx Y sy s h3:=by refine W _ ?_;clear W;rintro y m k t;exact(λz_ k_=>k_ y m k t)
 have I3:=I.went W';refine W' _ ?_;clear W';rintro y3 m3 - -;refine F₃ _ ?_;clear F₃;rintro a1 vs₁ z₁ - - - - - - - - - - -;refine z₁ _ ?_;clear z₁;rintro C₂ oe2 a02 ha1 hn2 hb₂ hs2 ho2 hc2 hx2 hd2 h02;cases ha1;have nd:∀ b,i9 env b∨inF A b->b≠a:=λb hb q=>by
  subst q;rcases hb with (rfl | ⟨z,hz⟩) | hb
  ·obtain⟨m,⟨o,es,ep,hoo,hdd,_⟩,_⟩:=I3.loc.ns
   rw[show h3.get? _=_ from ho2] at hoo;replace hoo:=i5 hoo;subst hoo;rw[hd2] at hdd;cases hdd
  ·refine j6 (I3.loc.live z _ hz) λv o hoo hdd=>?_
   rw[show h3.get? _=_ from ho2] at hoo;replace hoo:=i5 hoo;subst hoo;rw[hd2] at hdd;cases hdd
  ·refine g7 hb λl e hl' he hf=>?_
   refine I3.frs _ ?_;rintro e0 l' ha-all;rw[hl'] at ha;replace ha:=i5 ha;subst ha;refine(all e he) _ ?_;rintro L-hf' - - o hoo ⟨es,ep,hdd⟩;rw[hf] at hf';replace hf':=i5 hf';subst hf';rw[show h3.get? _=_ from ho2] at hoo;replace hoo:=i5 hoo;subst hoo;rw[hd2] at hdd;cases hdd
 have I4:Inv g F A env Z (upd Y a (.ex x)) {s with heap:=h3}:=by
  refine⟨I3.scope,I3.fn,I3.glob,I3.bltn,I3.room,I3.units,I3.quiet,⟨I3.sim.stays,λb o e=>?_⟩,⟨I3.loc.len,I3.loc.ns,λb hb=>?_,I3.loc.live,I3.loc.apart,I3.loc.other⟩,I3.base,I3.nd,?_⟩
  ·by_cases q:b=a
   ·subst q;rw[d3] at e
    exact Option.some.inj e▸⟨⟨C₂,oe2,vs₁,hx2,ho2,hc2,hd2⟩,hb₂⟩
   ·rw[d8 _ _ q] at e;exact I3.sim.objs b o e
  ·rw[d8 _ _ (nd b (.inl hb))];exact I3.loc.free b hb
  ·refine I3.frs _ ?_;rintro e0 l ha hf all
   refine(λz_ k_=>k_ e0 l ha hf (λv hv=>?_))
   refine(all v hv) _ ?_;rintro L z1 z2 z3 z4 o z5 z6;exact(λz_ k_=>k_ L z1 z2 z3 (by rw[d8 _ _ (nd L (.inr ⟨_,v,ha,hv,z2⟩))];exact z4) o z5 z6)
 have st4:Step (inF A) (i9 env) sx (upd Y a (.ex x)) sy {s with heap:=h3}:=⟨y3.same,y3.dom,y3.keep,y3.tups,λb o e hY=>by rw[d8 _ _ (λq=>by rw[q,hn2] at e;exact f9 e)];exact y3.new b o e hY⟩
 refine G6 (I4.loud (some (.ref a))) hi hw (.ref a) λs₅ I₅ st5=>?_
 refine wpAny_mono ((h a hs2) _ env s₅ I₅) (λf s₆ p=>?_) λz_ z_ p=>p.no
 refine p _ ?_;clear p;rintro f' Z' Y' r I₆ st6 q;refine by8 (I.calm I₆) hi hl λs₇ I₇ st7=>?_
 have r':FloRep s₇.heap f f':=by
  cases r with
  | next=>exact .next
  | brk=>exact .brk
  | cont=>exact .cont
  | ret r=>exact .ret (r.mono st7.tups)
 exact(λz_ k_=>k_ f' _ Y' r' I₇ (st4.trans (Step.trans st5 (Step.trans st6 st7))) q))
theorem bv6{body:List Stmt}{h₀:ExceptHandler}{hs:List ExceptHandler}{pos:Pos}(h:Exs g F body Z Y QS (λx Z₁ zs=>Hnd g F (h₀::hs) x Z₁ zs QS XS)):Ex g F (.Try body (h₀::hs) [] [] pos) Z Y QS XS:=(λA env s I=>by
 refine wpAny_Try_except (wpAny_mono (h A env s I) (λf sv p=>?_) λe sv p=>?_)
 ·cases f with
  | next=>
   refine p _ ?_;clear p;rintro f' Z' Y' r I' st q;cases r;exact wpAny_execs_nil (λz_ k_=>k_ _ Z' Y' .next I' st q)
  | _=>exact p
 ·refine p _ ?_;clear p;rintro x Z' Y' f I' st q
  refine l6 I'.frs.frame λv l L h1 h2 h3=>?_
  refine ae0 st I'.frs I'.sim f h3 λh₂ W qz=>?_
  have sw:=I'.went W;refine W _ ?_;clear W;rintro y2 m2 - -;refine N8 (s:={sv with heap:=h₂}) (fo:=none) y2 m2 qz λh₃ W F₃=>?_
  have I3:=sw.went W;refine W _ ?_;clear W;rintro y3 m3 - -;exact q A env _ _ _ _ I3 y3 F₃)
end
theorem OwnTailC.keeps{h h':Heap}{bmB tl:List Value}(T:OwnTailC h bmB tl)(hk:∀ b o,h.get? b=some o->h'.get? b=some o):OwnTailC h' bmB tl:=by
 induction T with
 | base=>exact .base
 | own hA hN hq _ ih=>exact .own (hk _ _ hA) (hN.keeps hk) hq ih
theorem OwnTailC.hasType{h:Heap}{bmB tl:List Value}{v:Value}(T:OwnTailC h bmB tl)(hb:bmB.contains v=true):tl.contains v=true:=by
 induction T with
 | base=>exact hb
 | own _ _ _ _ ih=>rw[bX,ih,Bool.or_true]
section
variable{prog:Program}{w:World}{M:Model}{A:Around}{E:Value->Shared->Prop}{h:Heap}{g:Array GenState}{d:Drawn}{t:Nat}{os:OsState}{a:Addr}{o:Obj}
 {nm q:Str} {C N:Addr} {bs bm bmB:List Value} {hdct:Bool} {sn:List Str} {sub:List Value} {ab:Bool} {col:Option Bool} {dd:Option Addr} {k0 k1 k2 k3 k5:Option Value} {newId:String} {mN:Str->Option Value}
theorem ag3{n:Str}{y:Option Value}{Q:Option Value->Shared->Prop}(hn:n∈z8)
  (hC:h.get? C=some (excClassObj nm q C N bs bm hdct sn sub ab col dd k0 k1 k2 k3 k5 newId)) (hN:h.Ns N mN) (hmN:∀ n∈z8,mN n=none) (T:OwnTailC h vbm bm) (hbm:mroOf (.type "ValueError")=pure vbm)
  (hB:typeLookup (.type "ValueError") n=pure y) (hq:Q y ⟨h,g,d,t,os⟩):wpAny M A (typeLookup (.ref C) n) Q E ⟨h,g,d,t,os⟩:=by
 have hrest:lookupAlong vbm n=pure y:=by rw[typeLookup_eq,hbm] at hB;exact hB
 rw[typeLookup_eq];refine wpAny_bind (wpAny_mroOf_exc hC ?_);rw[lookupAlong_cons];refine wpAny_bind (wpAny_classOwn_exc hC hN ?_);rw[hmN n hn];clear hC hN hmN hB;induction T with
 | base=>rw[hrest];exact wpAny_pure hq
 | own hA hN hni _ ih=>
  show wpAny M A (lookupAlong _ n) Q E _;rw[lookupAlong_cons];refine wpAny_bind (wpAny_classOwn_cls hA hN ?_);rw[hni n hn];exact ih
theorem ac9:mroOf (.type "ValueError")=pure vbm:=by kernel_rfl
theorem bY6:typeLookup (.type "ValueError") "__class__" = pure (some (.builtin "object.__class__")):=by rw[typeLookup_type,builtinLookup_eq_fast];kernel_rfl
theorem bz6:typeLookup (.type "ValueError") "__getattr__" = pure none:=by rw[typeLookup_type,builtinLookup_eq_fast];kernel_rfl
theorem bP3{R:Result->Shared->Prop}(hC:h.get? C=some (excClassObj nm q C N bs bm hdct sn sub ab col dd k0 k1 k2 k3 k5 newId))(T:OwnTailC h vbm bm)
  (hx:h.get? a=some o) (hc:o.cls=.ref C) (hq:R (.ok (.ret (.ref C))) ⟨h,g,d,t,os⟩) :
  codeAny (model prog w) A (.call (.builtin "getset_descriptor.__get__") ⟨[.builtin "object.__class__",.ref a,.ref C],[]⟩) R ⟨h,g,d,t,os⟩:=by
 have hT5:(⟨h,g,d,t,os⟩:Shared).TypeIs (.builtin "object.__class__") "getset_descriptor":=F.typeOf_object_class;have hcB:(Value.ref C::bm).contains (.type (".".intercalate ("object.__class__".cutAt '.').dropLast))=true:=by
  rw[F.owner_object_class,bX,T.hasType (by decide +kernel)];rfl
 refine codeAny_call_builtin F.slot_gs_get.plain F.entry_gs_get (F.slot_gs_get.check _ _ _ _ _ _ _ _ hT5 (F.args_gs_get _ _ _) ?_)
 repeat (any_goals (first | assumption | (with_reducible refine wpAny_loadPart_at hx ?_;rw[hc]) | (with_reducible refine wpAny_isSubtype_exc hC ?_;rw[hcB]) | wp_step))
 refine⟨Code.quiet_builtin _ (by decide +kernel),codeAny_builtin F.entry_object_class ?_⟩
 unfold Builtin.«object.__class__»
 repeat (any_goals (first | assumption | (with_reducible refine wpAny_loadPart_at hx ?_;rw[hc]) | wp_step))
theorem bx4{nameV:Value}{Q:Unit->Shared->Prop}(hC:h.get? C=some (excClassObj nm q C N bs bm hdct sn sub ab col dd k0 k1 k2 k3 k5 newId))(T:OwnTailC h vbm bm)
  (hx:h.get? a=some o) (hc:o.cls=.ref C) (hq:Q () ⟨h,g,d,t,os⟩):wpAny M A (checkBuiltinCall "BaseException.__getattribute__" ⟨[.ref a,nameV],[]⟩) Q E ⟨h,g,d,t,os⟩:=by
 have hk:builtinKind "BaseException.__getattribute__" = some .slot:=by decide +kernel
 have hsplit:splitId "BaseException.__getattribute__" = some ("BaseException","__getattribute__"):=by decide +kernel
 have hcB:(Value.ref C::bm).contains (.type "BaseException")=true:=by rw[bX,T.hasType (by decide +kernel)];rfl
 have ha:=F.args_bexc_ga (.ref a) nameV;unfold checkBuiltinCall;rw[hk,hsplit];refine wpAny_bind ?_
 ·unfold isInstance
  repeat (first | (with_reducible refine wpAny_loadPart_at hx ?_;rw[hc]) | (with_reducible refine wpAny_isSubtype_exc hC ?_;rw[hcB]) | wp_step)
  exact hq
theorem bn8{tk:Tok}{Q:PySem.Fin->Shared->Prop}(hC:h.get? C=some (excClassObj nm q C N bs bm hdct sn sub ab col dd k0 k1 k2 k3 k5 newId))(hN:h.Ns N mN)
  (hmN:∀ n∈z8,mN n=none) (T:OwnTailC h vbm bm) (hx:h.get? a=some o) (hc:o.cls=.ref C) (hq:Q (.done (.ret (.ref C))) ⟨h,g,d,t,os⟩) :
  wpAny (model prog w) A (Builtin.«object.__getattribute__» ⟨[.ref a,.str "__class__" tk],[]⟩) Q E ⟨h,g,d,t,os⟩:=by
 have hT5:(⟨h,g,d,t,os⟩:Shared).TypeIs (.builtin "object.__class__") "getset_descriptor":=F.typeOf_object_class;have f5:=F.typeOf_object_class;have f6:=F.slot_gs_get.lookup;have f7:=F.slot_gs_set.lookup;have hm:("__class__" : Str)∈z8:=.tail _ (.tail _ (.head _))
 repeat (any_goals (first | assumption | (with_reducible refine wpAny_loadPart_at hx ?_;rw[hc]) | with_reducible refine ag3 hm hC hN hmN T ac9 bY6 ?_ | wp_step))
 refine bP3 hC T hx hc ?_
 repeat (any_goals (first | assumption | wp_step))
theorem ch4{tk:Tok}{fill expr:Bool}{Q:Value->Shared->Prop}(hC:h.get? C=some (excClassObj nm q C N bs bm hdct sn sub ab col dd k0 k1 k2 k3 k5 newId))(hN:h.Ns N mN)
  (hmN:∀ n∈z8,mN n=none) (T:OwnTailC h vbm bm) (hx:h.get? a=some o) (hc:o.cls=.ref C) (FB:ExcAttrFacts "ValueError") (hq:Q (.ref C) ⟨h,g,d,t,os⟩) :
  wpAny (model prog w) A (getAttrBy (.ref a) (.str "__class__" tk) fill expr) Q E ⟨h,g,d,t,os⟩:=by
 have f3:=FB.ga.bind (.ref a);have hx0:(expr&&onTheHeap (Value.builtin "BaseException.__getattribute__"))=false:=by cases expr<;>rfl
 have hx2:(Value.builtin "BaseException.__getattribute__" == Value.builtin "object.__getattribute__")=false:=by decide +kernel
 have hx1:(onTheHeap (Value.ref C)&&Value.builtin "BaseException.__getattribute__" == Value.builtin "object.__getattribute__")=false:=by rw[hx2];rfl
 have hm1:("__getattribute__" : Str)∈z8:=.head _;have hm2:("__getattr__" : Str)∈z8:=.tail _ (.head _)
 repeat (any_goals (first | assumption | (with_reducible refine wpAny_loadPart_at hx ?_;rw[hc]) | with_reducible refine ag3 hm1 hC hN hmN T ac9 FB.ga.lookup ?_ | with_reducible refine ag3 hm2 hC hN hmN T ac9 bz6 ?_ | wp_step))
 refine codeAny_call_builtin FB.ga.plain F.entry_bexc_ga (bx4 hC T hx hc (bn8 hC hN hmN T hx hc ?_))
 repeat (any_goals (first | assumption | wp_step))
theorem bV5{Q:Option Value->Shared->Prop}(hC:h.get? C=some (excClassObj nm q C N bs bm hdct sn sub ab col dd k0 k1 k2 k3 k5 newId))(hN:h.Ns N mN)
  (hmN:∀ n∈z8,mN n=none) (T:OwnTailC h vbm bm) (hx:h.get? a=some o) (hc:o.cls=.ref C) (hq:Q (some (.ref C)) ⟨h,g,d,t+1,os⟩):wpAny (model prog w) A (getAttr? (.ref a) "__class__") Q E ⟨h,g,d,t,os⟩:=by
 unfold getAttr? getAttrBy?
 repeat (any_goals (first | assumption | with_reducible apply ch4 hC hN hmN T hx hc F.excAttr_ValueError | wp_step))
theorem bS5{C' N':Addr}{nm' q':Str}{bs' bm':List Value}{hdct':Bool}{sn':List Str}{sub':List Value}{ab':Bool}{col':Option Bool}{dd':Option Addr}{k0' k1' k2' k3' k5':Option Value}{newId':String}{b:Bool}{dep:Int}{tk:Tok}{Q:PySem.Fin->Shared->Prop}
  (hC:h.get? C=some (excClassObj nm q C N bs bm hdct sn sub ab col dd k0 k1 k2 k3 k5 newId)) (hC':h.get? C'=some (excClassObj nm' q' C' N' bs' bm' hdct' sn' sub' ab' col' dd' k0' k1' k2' k3' k5' newId')) (hN:h.Ns N mN)
  (hmN:∀ n∈z8,mN n=none) (T:OwnTailC h vbm bm) (hx:h.get? a=some o) (hc:o.cls=.ref C) (hb:(Value.ref C::bm).contains (.ref C')=b) (hq:∀ t,Q (.done (.ret (.bool b))) ⟨h,g,d,t,os⟩) :
  wpAny (model prog w) A (Builtin.«isinstance.nested» ⟨[.ref a,.ref C',.int dep tk],[]⟩) Q E ⟨h,g,d,t,os⟩:=by
 have hty:(⟨h,g,d,t,os⟩:Shared).TypeIs (.ref C') "type":=⟨_,hC',rfl⟩;by_cases he:C=C'
 ·subst he
  have hb':b=true:=by rw[<- hb];simp
  subst hb';have he':(Value.ref C==Value.ref C)=true:=by simp
  have hq':=hq t
  repeat (any_goals (first | assumption | (with_reducible refine wpAny_loadPart_at hx ?_;rw[hc]) | wp_step))
 ·have he':(Value.ref C==Value.ref C')=false:=by rw[beq_eq_false_iff_ne];exact λq=>he (Value.ref.inj q)
  cases b with
  | true=>
   have hq':=hq t
   repeat (any_goals (first | assumption | (with_reducible refine wpAny_loadPart_at hx ?_;rw[hc]) | with_reducible refine wpAny_loadPart_at hC' ?_ | (with_reducible refine wpAny_isSubtype_exc hC ?_;rw[hb]) | wp_step))
  | false=>
   have hq':=hq (t+1)
   repeat (any_goals (first | assumption | (with_reducible refine wpAny_loadPart_at hx ?_;rw[hc]) | with_reducible refine wpAny_loadPart_at hC' ?_ | (with_reducible refine wpAny_isSubtype_exc hC ?_;rw[hb]) | with_reducible apply bV5 hC hN hmN T hx hc | wp_step))
end
theorem bV0{g:G}{F:Blk}{Z:List (Option V)}{Y:Hp}{Q:V->Hp->Prop}{X:Str->Hp->Prop}{x y:Str}{C C':Addr}{bm bm':List Value}{a:Addr}{b:Bool}(hY:Y a=some (.ex x))(hx:XC g x C bm)(hy:XC g y C' bm')
  (hb:(Value.ref C::bm).contains (.ref C')=b) (h:Q (.bool b) Y):Op1 g F (λv=>call (.builtin "isinstance") [v,.ref C']) (.ref a) Z Y Q X:=(λA env s v I r=>by
 obtain rfl:=r.ofRef;refine T3 ((I.sim.objs a _ hY).1) λC₁ oe vs h1 ho hc hd=>?_
 obtain rfl:C₁=C:=by rw[hx.bound] at h1;cases h1;rfl
 refine hx.obj _ ?_;rintro N nm q bs hdct sn sub ab col dd k0 k1 k2 k3 k5 mN hC hN-hmN-T;refine hy.obj _ ?_;rintro N' nm' q' bs' hdct' sn' sub' ab' col' dd' k0' k1' k2' k3' k5' mN' hC' hN'-hmN'-T';have kk:=I.sim.stays;refine call_isinstance (S:=λz_ R s'=>s'=s/\∀ t,R (.ok (.ret (.bool b))) {s with toks:=t}) (λprog w A R s' p=>?_) ⟨rfl,λt=>m7 I h⟩
 refine c5 p λq1_ hR=>?_;try clear p;subst q1_
 obtain⟨hp,gs,dr,tk,os⟩:=s';exact isinstance_outer (bS5 (kk _ _ hC) (kk _ _ hC') (hN.keeps kk) hmN (T.keeps kk) ho hc hb hR) (by intro e;cases e))
theorem bF5{prog:Program}{w:World}{A:Around}{E:Value->Shared->Prop}{h:Heap}{g:Array GenState}{d:Drawn}{t:Nat}{os:OsState}{a:Addr}{o:Obj}
  {nm q:Str} {C N:Addr} {bs bm:List Value} {hdct:Bool} {sn:List Str} {sub:List Value} {ab:Bool} {col:Option Bool} {dd:Option Addr} {k0 k1 k2 k3 k5:Option Value} {newId:String} {dep:Int} {tk:Tok} {Q:PySem.Fin->Shared->Prop}
  (hC:h.get? C=some (excClassObj nm q C N bs bm hdct sn sub ab col dd k0 k1 k2 k3 k5 newId)) (hx:h.get? a=some o) (hc:o.cls=.ref C) (hb:(Value.ref C::bm).contains (.type "ValueError")=true) (hq:Q (.done (.ret (.bool true))) ⟨h,g,d,t,os⟩) :
  wpAny (model prog w) A (Builtin.«isinstance.nested» ⟨[.ref a,.type "ValueError",.int dep tk],[]⟩) Q E ⟨h,g,d,t,os⟩:=by
 have hty:typeOf (.type "ValueError")=pure (.type "type"):=by kernel_rfl
 have he':(Value.ref C==Value.type "ValueError")=false:=rfl
 repeat (any_goals (first | assumption | (with_reducible refine wpAny_loadPart_at hx ?_;rw[hc]) | (with_reducible refine wpAny_isSubtype_exc hC ?_;rw[hb]) | wp_step))
theorem bi4{g:G}{F:Blk}{Z:List (Option V)}{Y:Hp}{Q:V->Hp->Prop}{X:Str->Hp->Prop}{x:Str}{C:Addr}{bm:List Value}{a:Addr}(hY:Y a=some (.ex x))(hx:XC g x C bm)
  (h:Q (.bool true) Y):Op1 g F (λv=>call (.builtin "isinstance") [v,.type "ValueError"]) (.ref a) Z Y Q X:=(λA env s v I r=>by
 obtain rfl:=r.ofRef;refine T3 ((I.sim.objs a _ hY).1) λC₁ oe vs h1 ho hc hd=>?_
 obtain rfl:C₁=C:=by rw[hx.bound] at h1;cases h1;rfl
 refine hx.obj _ ?_;rintro N nm q bs hdct sn sub ab col dd k0 k1 k2 k3 k5 mN hC hN-hmN-T;have kk:=I.sim.stays;refine call_isinstance (S:=λz_ R s'=>s'=s/\R (.ok (.ret (.bool true))) s) (λprog w A R s' p=>?_) ⟨rfl,n6 I h⟩
 refine c5 p λq1_ hR=>?_;try clear p;subst q1_
 obtain⟨hp,gs,dr,tk,os⟩:=s';exact isinstance_outer (bF5 (kk _ _ hC) ho hc (by rw[bX,T.hasType (by decide +kernel)];rfl) hR) (by intro e;cases e))
theorem bV3{g:G}{sc:Scope}{vs:List Str}{d:Nat}{q:Bool}{Z:List (Option V)}{Y:Hp}{Q:V->Hp->Prop}{X:Str->Hp->Prop}{x t:Str}{np tp pos:Pos}{e:Expr}{C:Addr}(hb:Bi g x (.builtin "isinstance"))(hbt:g.mg t=some (.ref C))(hk:sc.names.lookup x=some .globalImplicit)(hkt:sc.names.lookup t=some .globalImplicit)
  (h:Ev g ⟨sc,vs,d,q⟩ e Z Y (λv zs=>Op1 g ⟨sc,vs,d,q⟩ (λy=>call (.builtin "isinstance") [y,.ref C]) v Z zs Q X) X) (hd:(x==("__debug__" : Str))=false) (hdt:(t==("__debug__" : Str))=false)
  (he:∀ env,starEach [e,.Name t tp] env=(false,eval e env)::starEach [.Name t tp] env):Ev g ⟨sc,vs,d,q⟩ (.Call (.Name x np) [e,.Name t tp] [] pos) Z Y Q X:=(λA env s I=>by
 refine wpAny_Call_ofName (Calls.Name_function_global I.fn (by show env.scope.names.lookup x=_;rw[I.scope];exact hk) (aK (by rw[I.glob];exact g.ns.keeps I.sim.stays) hb.1 (by rw[I.bltn];exact g.nb.keeps I.sim.stays) hb.2 ?_) hd)
 have hp:(backTo pos (starEach [e,.Name t tp] env)).any (·.1)=false:=by rw[he];rfl
 refine bh hp (x9 hp (wpAny_items_cons (pgo (h A env s I) (λv sv V zs r I1 st1 hQ=>?_) λz_ z_ p=>p) (he env)))
 refine wpAny_items_cons (Calls.Name_function_global I1.fn (by show env.scope.names.lookup t=_;rw[I1.scope];exact hkt) (aW (by rw[I1.glob];exact g.ns.keeps I1.sim.stays) hbt (wpAny_items_nil ?_)) hdt)
 exact wpAny_mono (hQ A env sv v I1 r) (λz_ z_ p=>p.step st1) λz_ z_ p=>p.step st1)
abbrev Lo:=List (Option V)
abbrev VP:=V->Hp->Prop
abbrev BP:=Bool->Hp->Prop
abbrev XP:=Str->Hp->Prop
noncomputable def xK(X:XP):j3:=λx z_ Y=>X x Y
noncomputable def xE(X:j3)(Z:Lo):XP:=λx Y=>X x Z Y
inductive Req(P K:Prop):Prop
 | mk (p:P) (k:K):Req P K
inductive New(Y:Hp)(K:Addr->Prop):Prop
 | mk (k:∀ a,Y a=none->K a):New Y K
inductive Look(Y:Hp)(a:Addr)(K:List V->Prop):Prop
 | mk (l:List V) (h:Y a=some (.lst l)) (k:K l):Look Y a K
inductive LookR(g:G)(Y:Hp)(a:Addr)(K:List V->Prop):Prop
 | mk (l:List V) (h:Y a=some (.lst l)) (k:K l):LookR g Y a K
 | scr (ns:List Int) (h:Scr g a ns) (k:K (ns.map .int)):LookR g Y a K
inductive Own:Hp->Addr->(Hp->List V->Prop)->Prop
 | top {Y:Hp} {a:Addr} {l:List V} {K:Hp->List V->Prop} (k:K Y l):Own (upd Y a (.lst l)) a K
 | mk {Y:Hp} {a:Addr} {K:Hp->List V->Prop} (l:List V) (h:Y a=some (.lst l)) (k:K Y l):Own Y a K
inductive LookI(Y:Hp)(a:Addr)(K:List (Int×V)->Prop):Prop
 | mk (l:List (Int×V)) (h:Y a=some (.di l)) (k:K l):LookI Y a K
inductive LookS(Y:Hp)(a:Addr)(K:List (Str×V)->Prop):Prop
 | mk (l:List (Str×V)) (h:Y a=some (.ds l)) (k:K l):LookS Y a K
inductive OwnI:Hp->Addr->(Hp->List (Int×V)->Prop)->Prop
 | top {Y:Hp} {a:Addr} {l:List (Int×V)} {K:Hp->List (Int×V)->Prop} (k:K Y l):OwnI (upd Y a (.di l)) a K
 | mk {Y:Hp} {a:Addr} {K:Hp->List (Int×V)->Prop} (l:List (Int×V)) (h:Y a=some (.di l)) (k:K Y l):OwnI Y a K
inductive OwnS:Hp->Addr->(Hp->List (Str×V)->Prop)->Prop
 | top {Y:Hp} {a:Addr} {l:List (Str×V)} {K:Hp->List (Str×V)->Prop} (k:K Y l):OwnS (upd Y a (.ds l)) a K
 | mk {Y:Hp} {a:Addr} {K:Hp->List (Str×V)->Prop} (l:List (Str×V)) (h:Y a=some (.ds l)) (k:K Y l):OwnS Y a K
inductive LookX(Y:Hp)(a:Addr)(K:Str->Prop):Prop
 | mk (x:Str) (h:Y a=some (.ex x)) (k:K x):LookX Y a K
inductive Hit(x:Str)(ys ns:List Str)(A B:Prop):Prop
 | yes (h:ys.contains x=true) (a:A):Hit x ys ns A B
 | no (h:ns.contains x=true) (b:B):Hit x ys ns A B
inductive HitB(x:Str)(ys ns:List Str)(K:Bool->Prop):Prop
 | mk (b:Bool) (h1:b=true->ys.contains x=true) (h2:b=false->ns.contains x=true) (k:K b):HitB x ys ns K
inductive DAt(o:Option V)(K:V->Prop):Prop
 | mk (v:V) (h:o=some v) (k:K v):DAt o K
inductive Ite(b:Bool)(A B:Prop):Prop
 | mk (h1:b=true->A) (h2:b=false->B):Ite b A B
inductive Stop(P:Prop):Prop
 | mk (p:P):Stop P
inductive Drop(Y:Hp)(K:Hp->Prop):Prop
 | mk {Y':Hp} (h:Sub Y' Y) (k:K Y'):Drop Y K
inductive Ret(v:V)(Y:Hp)(Q:VP):Prop
 | mk {Y':Hp} (h:Sub Y' Y) (k:Q v Y'):Ret v Y Q
inductive Pick(l:List V)(n:Int)(K:V->Prop):Prop
 | mk (h0:0<=n) (h1:n<l.length) (k:∀ x,l[n.toNat]?=some x->K x):Pick l n K
inductive Idx(l:List V)(k:Int)(K:V->Prop):Prop
 | mk (h0:0<=k) (h1:k<l.length) (hz:k<2 ^ 63) (h:∀ x,l[k.toNat]?=some x->K x):Idx l k K
inductive IdxS(x:Str)(k:Int)(K:V->Prop):Prop
 | mk (h0:0<=k) (h1:k<x.length) (hz:k<2 ^ 63) (h:∀ c,x.cps[k.toNat]?=some c->K (.str ⟨#[c]⟩)):IdxS x k K
inductive DGet(D:List (Str×Int))(s:Str)(K:V->Prop):Prop
 | none (e:D.lookup s=Option.none) (k:K .none):DGet D s K
 | some (i:Int) (e:D.lookup s=Option.some i) (k:K (.int i)):DGet D s K
inductive Srted(Y:Hp)(a:Addr)(Q:VP):Prop
 | mk (l:List V) (h:Y a=some (.lst l)) (hk:SK l) (h64:l.length<64) (k:∀ b l',Y b=none->l'.Perm l->l'.Pairwise leV->Q (.ref b) (upd Y b (.lst l'))):Srted Y a Q
inductive SSet(Y:Hp)(a:Addr)(Q:VP):Prop
 | mk (l:List V) (h:Y a=some (.lst l)) (hk:SK l) (h64:l.length<64) (k:∀ b L,Y b=none->Srt L->(∀ y,y∈L↔y∈l)->Q (.ref b) (upd Y b (.lst L))):SSet Y a Q
inductive AllB(Y:Hp)(a:Addr)(Q:VP):Prop
 | mk (bs:List Bool) (h:Y a=some (.lst (bs.map .bool))) (k:Q (.bool (bs.all id)) Y):AllB Y a Q
inductive SumL(Y:Hp)(a:Addr)(Q:VP):Prop
 | mk (ns:List Int) (h:Y a=some (.lst (ns.map .int))) (k:Q (.int ns.sum) Y):SumL Y a Q
inductive DOf(Y:Hp)(a:Addr)(Q:VP):Prop
 | mk (ps:List (Str×V)) (h:Y a=some (.lst (ps.map D6))) (hn:(ps.map (·.1)).Nodup) (hz:ps.length<=10000) (k:∀ b,Y b=none->Q (.ref b) (upd Y b (.ds ps))):DOf Y a Q
inductive InL(n:Bool)(d:Nat)(l:List V)(x:V)(Y:Hp)(Q:VP):Prop
 | ofStrs (ss:List Str) (y:Str) (hx:x=.str y) (hl:l=ss.map .str) (k:Q (.bool (n ^^ ss.any (· == y))) Y):InL n d l x Y Q
 | mk (hl:flatL l=true) (hx:flat x=true) (hu:min (depL l) (dep x)+1<=8*d) (k:Q (.bool (n ^^ (l4 l).any λy=>PyData.eqv y (dat x))) Y):InL n d l x Y Q
inductive EqL(n:Bool)(d:Nat)(l k:List V)(Y:Hp)(Q:VP):Prop
 | mk (hl:flatL l=true) (hk:flatL k=true) (hu:min (depL l) (depL k)+1<=8*d) (h:Q (.bool (n ^^ PyData.eqvAll (l4 l) (l4 k))) Y):EqL n d l k Y Q
inductive EqT(n:Bool)(d:Nat)(l k:List V)(Y:Hp)(Q:VP):Prop
 | nil (hk:k=[]) (hn:n=false) (hd:0<d) (h:Q (.bool (l.length==0)) Y):EqT n d l k Y Q
 | mk (hl:flatL l=true) (hk:flatL k=true) (hu:min (depL l) (depL k)+1<=8*d) (h:Q (.bool (n ^^ PyData.eqvAll (l4 l) (l4 k))) Y):EqT n d l k Y Q
inductive InR(n:Bool)(d:Nat)(Y:Hp)(a:Addr)(x:V)(Q:VP):Prop
 | l (h:Look Y a λl=>InL n d l x Y Q):InR n d Y a x Q
 | i (k:Int) (e:x=.int k) (h:LookI Y a λl=>Q (.bool (n ^^ (j9 l k).isSome)) Y):InR n d Y a x Q
 | s (k:Str) (e:x=.str k) (h:LookS Y a λl=>Q (.bool (n ^^ (j9 l k).isSome)) Y):InR n d Y a x Q
inductive ItR(g:G)(Y:Hp)(a:Addr)(k:Int)(Q:VP):Prop
 | l (h:LookR g Y a λl=>Idx l k λx=>Q x Y):ItR g Y a k Q
 | d (h:LookI Y a λl=>DAt (j9 l k) λx=>Q x Y):ItR g Y a k Q
inductive PtR(Y:Hp)(a:Addr)(k:Int)(v:V)(K:Hp->Prop):Prop
 | l (h:Own Y a λY l=>Req (0<=k/\k<l.length/\l.length<=10000) (K (upd Y a (.lst (l.set k.toNat v))))):PtR Y a k v K
 | d (h:OwnI Y a λY l=>Req (l.length<=10000) (K (upd Y a (.di (B7 l k v))))):PtR Y a k v K
inductive Loop(L:List V)(K:Hp->Prop)(Z:Lo)(Y:Hp)(turn:V->Lo->Hp->d6->Prop)(Q:d6):Prop
 | mk (J:List V->Lo->Hp->Prop) (h0:J L Z Y) (ht:∀ v l Z' Y',J (v::l) Z' Y'->K Y'/\turn v Z' Y' (H0 Q J l)) (he:∀ Z' Y',J [] Z' Y'->K Y'/\Q .next Z' Y'):Loop L K Z Y turn Q
inductive LoopR:Hp->Addr->Lo->(V->Lo->Hp->d6->Prop)->d6->Prop
 | held {Y:Hp} {a:Addr} {Z:Lo} {turn:V->Lo->Hp->d6->Prop} {Q:d6} (l:List V) (h:Y a=some (.lst l)) (k:Loop l (λY=>Y a=some (.lst l)) Z Y turn Q):LoopR Y a Z turn Q
 | tmp {Y:Hp} {a:Addr} {l:List V} {Z:Lo} {turn:V->Lo->Hp->d6->Prop} {Q:d6} (hn:Y a=none) (k:Loop l (λz_=>True) Z Y turn Q):LoopR (upd Y a (.lst l)) a Z turn Q
inductive CLoop(L:List V)(K:Hp->Prop)(Y:Hp)(turn:V->Hp->VP->(Hp->Prop)->Prop)(Q:VP):Prop
 | mk (J:List V->List V->Hp->Prop) (hz:L.length<=10000) (h0:J L [] Y) (ht:∀ v l acc Y',J (v::l) acc Y'->K Y'/\turn v Y' (λy Y=>J l (acc++[y]) Y) (λY=>J l acc Y))
   (he:∀ acc Y',J [] acc Y'->K Y'/\∀ a,Y' a=none->Q (.ref a) (upd Y' a (.lst acc))):CLoop L K Y turn Q
noncomputable def whQ(Q:d6)(J:Nat->Lo->Hp->Prop)(n:Nat):d6:=λf Z Y=>match f with
 | .next=>∃ m,m<n/\J m Z Y
 | .cont=>∃ m,m<n/\J m Z Y
 | .brk=>Q .next Z Y
 | .ret v=>Q (.ret v) Z Y
inductive Whl(Z:Lo)(Y:Hp)(turn:Lo->Hp->d6->(Hp->Prop)->Prop)(Q:d6):Prop
 | mk (J:Nat->Lo->Hp->Prop) (n:Nat) (h0:J n Z Y) (ht:∀ n Z' Y',J n Z' Y'->turn Z' Y' (whQ Q J n) (λzs=>Q .next Z' zs)):Whl Z Y turn Q
inductive LoopZ(a:Addr)(m:List V)(Z:Lo)(Y:Hp)(turn:List V->Lo->Hp->d6->Prop)(Q:d6):Prop
 | mk (l:List V) (ha:Y a=some (.lst l)) (hb:nz (.tup m)=true) (J:Nat->Lo->Hp->Prop) (h0:J 0 Z Y) (ht:∀ i x y Z' Y',l[i]?=some x->m[i]?=some y->J i Z' Y'->ZipK a l m Z' Y'/\turn [x,y] Z' Y' (aa6 Q J (i+1))) (he:∀ Z' Y',J (min l.length m.length) Z' Y'->ZipK a l m Z' Y'/\Q .next Z' Y'):LoopZ a m Z Y turn Q
inductive BI where
 | len | all | int | min | max | sorted | tuple | list | sum | dict
inductive ME where
 | append | pop
inductive TY where
 | int | bool | str | tuple | list
set_option genCtorIdx false
mutual
inductive IE where
 | k (v:V)
 | v (i:Nat)
 | bin (op:Operator) (a b:IE)
 | cmp (op:CmpOp) (a b:IE)
 | chain (o p:CmpOp) (a b c:IE)
 | not (a:IE)
 | neg (a:IE)
 | and (a b:IE)
 | or (a b:IE)
 | tup (es:IEs)
 | lst (es:IEs)
 | itm (a b:IE)
 | itk (a:IE) (n:Nat)
 | pick (es:IEs) (i:IE)
 | slc (a lo hi:IE)
 | call (f:Str) (es:IEs)
 | bi (b:BI) (es:IEs)
 | isi (a:IE) (t:TY)
 | meth (m:ME) (o:IE) (es:IEs)
 | get (D:List (Str×Int)) (a:IE)
 | lrng (a:IE)
 | sset (a:IE)
 | inl (n:Bool) (a:IE) (es:IEs)
 | comp (js:List Nat) (elt:IE) (it:II) (cs:IEs)
 | pw (n:Nat) (v:Int)
 | dic0 (s:Bool)
 | dic1 (s:Bool) (a b:IE)
 | isx (a:IE) (y:Str) (ys ns:List Str)
 | dg2 (a k z:IE)
 | isl (a:IE)
 | dik (ks:List Str) (es:IEs)
inductive IEs where
 | nil
 | cons (e:IE) (es:IEs)
inductive II where
 | e (a:IE)
 | r1 (a:IE)
end
mutual
inductive IS where
 | ret (e:IE)
 | iff (t:IE) (a b:ISs)
 | asg (i:Nat) (e:IE)
 | seti (o i e:IE)
 | swap (i j:Nat) (a b:IE)
 | unp (is:List Nat) (i:Nat)
 | expr (e:IE)
 | brk
 | loop (t:Nat) (it:II) (body:ISs)
 | loops (ts:List Nat) (it:II) (body:ISs)
 | loopz (ts:List Nat) (es:IEs) (body:ISs)
 | whil (t:IE) (body:ISs)
 | rais (x:Str) (es:IEs)
 | tri (b:ISs) (hs:IHs)
inductive ISs where
 | nil
 | cons (s:IS) (ss:ISs)
 | stop (ss:ISs)
 | drop (ss:ISs)
 | any
inductive IHs where
 | nil
 | cons (y:Str) (ys ns:List Str) (n:Option Nat) (suite:ISs) (rest:IHs)
end
set_option genCtorIdx true
noncomputable def oAt:Option V->(V->Prop)->Prop
 | some v,K=>K v
 | none,_=>False
noncomputable def vAt:Lo->Nat->(V->Prop)->Prop
 | x::_,0,K=>oAt x K
 | _::l,n+1,K=>vAt l n K
 | [],_,_=>False
noncomputable def lAt:List V->Nat->(V->Prop)->Prop
 | x::_,0,K=>K x
 | _::l,n+1,K=>lAt l n K
 | [],_,_=>False
noncomputable def Z6:List V->(List Str->Prop)->Prop
 | [],K=>K []
 | .str x::l,K=>Z6 l λss=>K (x::ss)
 | _,_=>False
noncomputable def ag1:V->(Option Int->Prop)->Prop
 | .none,K=>K none
 | .int i,K=>K (some i)
 | _,_=>False
noncomputable def au0:V->V->Hp->VP->Prop
 | .int a,.int b,Y,Q=>Q (.int (a+b)) Y
 | .str x,.str y,Y,Q=>Req (x.length+y.length<=10000) (Q (.str (x++y)) Y)
 | .tup l,.tup k,Y,Q=>Req (l.length+k.length<=10000) (Q (.tup (l++k)) Y)
 | .ref a,.ref b,Y,Q=>Look Y a λl=>Look Y b λk=>Req (l.length+k.length<=10000) (New Y λc=>Q (.ref c) (upd Y c (.lst (l++k))))
 | _,_,_,_=>False
noncomputable def aG6:V->V->Hp->VP->Prop
 | .int a,.int b,Y,Q=>Req (j4 a∨j4 b) (Q (.int (a*b)) Y)
 | .ref a,.int n,Y,Q=>Look Y a λl=>Req (0<=n/\l.length*n.toNat<=10000/\n<=10000) (New Y λb=>Q (.ref b) (upd Y b (.lst (List.replicate n.toNat l).flatten)))
 | _,_,_,_=>False
noncomputable def D2(P:Int->Int->Prop):V->V->Prop
 | .int a,.int b=>P a b
 | _,_=>False
noncomputable def ay4(op:Operator)(x y:V)(Y:Hp)(Q:VP):Prop:=match op with
 | .Add=>au0 x y Y Q
 | .Sub=>D2 (λa b=>Q (.int (a-b)) Y) x y
 | .Mult=>aG6 x y Y Q
 | .Mod=>D2 (λa b=>Req (0<b) (Q (.int (a%b)) Y)) x y
 | .FloorDiv=>D2 (λa b=>Req (0<b/\b<2 ^ 64) (Q (.int (a / b)) Y)) x y
 | _=>False
noncomputable def bJ5(n:Bool)(Y:Hp)(Q:VP)(y:Str):V->Prop
 | .str x=>match n with
  | true=>Q (.bool (!Txt.contains y x)) Y
  | false=>Q (.bool (Txt.contains y x)) Y
 | _=>False
noncomputable def bb8(n:Bool)(Y:Hp)(Q:VP)(l:List V):V->Prop
 | .str x=>match n with
  | true=>False
  | false=>Z6 l λss=>Q (.bool (ss.any (· == x))) Y
 | _=>False
noncomputable def wIn(n:Bool)(d:Nat)(Y:Hp)(Q:VP)(x:V):V->Prop
 | .str y=>bJ5 n Y Q y x
 | .tup l=>bb8 n Y Q l x
 | .ref a=>InR n d Y a x Q
 | _=>False
noncomputable def wEq(d:Nat)(Y:Hp)(Q:VP):V->V->Prop
 | .int a,.int b=>Q (.bool (a==b)) Y
 | .str a,.str b=>Q (.bool (a==b)) Y
 | .bool a,.bool b=>Q (.bool (a==b)) Y
 | .none,.int _=>Q (.bool false) Y
 | .tup l,.tup k=>EqT false d l k Y Q
 | .ref a,.ref b=>Look Y a λl=>Look Y b λk=>EqL false d l k Y Q
 | _,_=>False
noncomputable def wNe(d:Nat)(Y:Hp)(Q:VP):V->V->Prop
 | .int a,.int b=>Q (.bool (a != b)) Y
 | .str a,.str b=>Q (.bool (a != b)) Y
 | .bool a,.bool b=>Q (.bool (a != b)) Y
 | .none,.int _=>Q (.bool true) Y
 | .tup l,.tup k=>EqT true d l k Y Q
 | .ref a,.ref b=>Look Y a λl=>Look Y b λk=>EqL true d l k Y Q
 | _,_=>False
noncomputable def L5(d:Nat)(op:CmpOp)(x y:V)(Y:Hp)(Q:VP):Prop:=match op with
 | .Lt=>D2 (λa b=>Q (.bool (decide (a<b))) Y) x y
 | .LtE=>D2 (λa b=>Q (.bool (decide (a<=b))) Y) x y
 | .Gt=>D2 (λa b=>Q (.bool (decide (a > b))) Y) x y
 | .GtE=>D2 (λa b=>Q (.bool (decide (a≥b))) Y) x y
 | .Eq=>wEq d Y Q x y
 | .NotEq=>wNe d Y Q x y
 | .In=>wIn false d Y Q x y
 | .NotIn=>wIn true d Y Q x y
 | _=>False
noncomputable def D4:V->Hp->BP->Prop
 | .bool b,Y,Q=>Q b Y
 | .int i,Y,Q=>Q (i != 0) Y
 | _,_,_=>False
noncomputable def aj9(g:G):V->V->Hp->VP->Prop
 | .tup l,.int k,Y,Q=>Idx l k λx=>Q x Y
 | .str x,.int k,Y,Q=>IdxS x k λx=>Q x Y
 | .ref a,.int k,Y,Q=>ItR g Y a k Q
 | .ref a,.str k,Y,Q=>LookS Y a λl=>DAt (j9 l k) λx=>Q x Y
 | _,_,_,_=>False
noncomputable def aM0(Y:Hp)(a:Addr)(v:V)(K:Hp->Prop):V->Prop
 | .int k=>PtR Y a k v K
 | .str k=>OwnS Y a λY l=>Req (l.length<=10000) (K (upd Y a (.ds (B7 l k v))))
 | _=>False
noncomputable def aE9(g:G)(n:Nat):V->Hp->VP->Prop
 | .tup l,Y,Q=>lAt l n λx=>Q x Y
 | .ref a,Y,Q=>LookR g Y a λl=>lAt l n λx=>Q x Y
 | _,_,_=>False
noncomputable def bq8(l:List V):V->Hp->VP->Prop
 | .int n,Y,Q=>Pick l n λx=>Q x Y
 | _,_,_=>False
noncomputable def aD7(lo hi:Option Int):V->Hp->VP->Prop
 | .tup l,Y,Q=>Req (l.length<=10000) (Q (.tup (slc lo hi l)) Y)
 | .str x,Y,Q=>Req (x.length<=10000) (Q (.str (sls lo hi x)) Y)
 | .ref a,Y,Q=>Look Y a λl=>Req (l.length<=10000) (New Y λb=>Q (.ref b) (upd Y b (.lst (slc lo hi l))))
 | _,_,_=>False
noncomputable def aN3(t:TY):V->Hp->VP->Prop
 | .none,Y,Q=>Q (.bool false) Y
 | .bool _,Y,Q=>match t with
  | .int=>Q (.bool true) Y
  | .bool=>Q (.bool true) Y
  | _=>Q (.bool false) Y
 | .int _,Y,Q=>match t with
  | .int=>Q (.bool true) Y
  | _=>Q (.bool false) Y
 | .str _,Y,Q=>match t with
  | .str=>Q (.bool true) Y
  | _=>Q (.bool false) Y
 | .tup _,Y,Q=>match t with
  | .tuple=>Q (.bool true) Y
  | _=>Q (.bool false) Y
 | .ref a,Y,Q=>Look Y a λz_=>match t with
  | .list=>Q (.bool true) Y
  | _=>Q (.bool false) Y
noncomputable def aK3(g:G)(Q:VP)(Y:Hp):V->Prop
 | .tup l=>Req (l.length<=10000) (Q (.int l.length) Y)
 | .str x=>Req (x.length<=10000) (Q (.int x.length) Y)
 | .ref a=>LookR g Y a λl=>Req (l.length<=10000) (Q (.int l.length) Y)
 | _=>False
noncomputable def aB7(Q:VP)(Y:Hp):V->Prop
 | .tup l=>Q (.tup l) Y
 | .ref a=>Look Y a λl=>Req (l.length<=10000) (Q (.tup l) Y)
 | _=>False
noncomputable def aE2(Q:VP)(Y:Hp):V->Prop
 | .tup l=>Req (l.length<=10000) (New Y λb=>Q (.ref b) (upd Y b (.lst l)))
 | .ref a=>Look Y a λl=>Req (l.length<=10000) (New Y λb=>Q (.ref b) (upd Y b (.lst l)))
 | _=>False
noncomputable def z9(P:Addr->Prop):V->Prop
 | .ref a=>P a
 | _=>False
noncomputable def aJ5(P:Bool->Prop):V->Prop
 | .bool a=>P a
 | _=>False
noncomputable def S0(P:Str->Prop):V->Prop
 | .str a=>P a
 | _=>False
noncomputable def N3(P:Int->Prop):V->Prop
 | .int a=>P a
 | _=>False
noncomputable def un(P:V->Prop):List V->Prop
 | [x]=>P x
 | _=>False
noncomputable def duo(P:V->V->Prop):List V->Prop
 | [x,y]=>P x y
 | _=>False
noncomputable def ap1(Y:Hp)(Q:VP):List V->Prop
 | [x,y]=>D2 (λa b=>Q (.int (min a b)) Y) x y
 | _=>False
noncomputable def cb6(s:Bool)(x y:V)(Y:Hp)(Q:VP):Prop:=match s with
 | true=>S0 (λk=>New Y λc=>Q (.ref c) (upd Y c (.ds [(k,y)]))) x
 | false=>N3 (λk=>New Y λc=>Q (.ref c) (upd Y c (.di [(k,y)]))) x
noncomputable def b2i(b:Bool):Int:=bif b then 1 else 0
noncomputable def wBi(g:G)(q:Bool)(b:BI)(l:List V)(Y:Hp)(Q:VP):Prop:=match b with
 | .len=>un (aK3 g Q Y) l
 | .all=>match q with
  | true=>un (z9 λa=>AllB Y a Q) l
  | false=>False
 | .int=>un (aJ5 λb=>Q (.int (b2i b)) Y) l
 | .min=>match q with
  | true=>ap1 Y Q l
  | false=>False
 | .max=>match q with
  | true=>duo (D2 λa b=>Q (.int (max a b)) Y) l
  | false=>False
 | .sorted=>match q with
  | true=>un (z9 λa=>Srted Y a Q) l
  | false=>False
 | .tuple=>un (aB7 Q Y) l
 | .list=>un (aE2 Q Y) l
 | .sum=>match q with
  | true=>un (z9 λa=>SumL Y a Q) l
  | false=>False
 | .dict=>match q with
  | true=>un (z9 λa=>DOf Y a Q) l
  | false=>False
noncomputable def wMe(m:ME)(a:Addr)(l:List V)(Y:Hp)(Q:VP):Prop:=match m with
 | .append=>un (λv=>Own Y a λY k=>Req (k.length<=10000) (Q .none (upd Y a (.lst (k++[v]))))) l
 | .pop=>un (N3 λn=>Own Y a λY k=>Req (k.length<=10000/\0<=n/\n<k.length) (∀ x,k[n.toNat]?=some x->Q x (upd Y a (.lst (k.eraseIdx n.toNat))))) l
noncomputable def aH1(Y:Hp)(Q:VP):V->Prop
 | .tup _=>Q (.bool true) Y
 | .ref a=>Look Y a λz_=>Q (.bool true) Y
 | _=>False
noncomputable def wIt(Q:List V->(Hp->Prop)->Hp->Prop)(Y:Hp):V->Prop
 | .tup L=>Q L (λz_=>True) Y
 | .str x=>Q (H4 x) (λz_=>True) Y
 | .ref a=>Look Y a λL=>Q L (λY=>Y a=some (.lst L)) Y
 | _=>False
noncomputable def wLt(Z:Lo)(turn:V->Lo->Hp->d6->Prop)(Q:d6)(Y:Hp):V->Prop
 | .tup L=>Loop L (λz_=>True) Z Y turn Q
 | .str x=>Loop (H4 x) (λz_=>True) Z Y turn Q
 | .ref a=>LoopR Y a Z turn Q
 | _=>False
noncomputable def k2(F:Lo->Hp->VP->XP->Prop)(Z:Lo)(K:V->VP)(X:XP):VP:=λx Y=>F Z Y (K x) X
noncomputable def bv2(op:Operator)(Q:VP):V->VP:=λx y Y=>ay4 op x y Y Q
noncomputable def at5(d:Nat)(op:CmpOp)(Q:VP):V->VP:=λx y Y=>L5 d op x y Y Q
noncomputable def at8(g:G)(Q:VP):V->VP:=λx y Y=>aj9 g x y Y Q
noncomputable def aw2(g:G)(n:Nat)(Q:VP):VP:=λx Y=>aE9 g n x Y Q
noncomputable def J6(Q:BP):VP:=λv Y=>D4 v Y Q
noncomputable def ba3(Q:VP):BP:=λb Y=>Q (.bool (!b)) Y
noncomputable def bY0(F:Lo->Hp->VP->XP->Prop)(Z:Lo)(Q:VP)(X:XP):VP:=λx Y=>D4 x Y λt Y=>Ite t (F Z Y Q X) (Q x Y)
noncomputable def orK(F:Lo->Hp->VP->XP->Prop)(Z:Lo)(Q:VP)(X:XP):VP:=λx Y=>D4 x Y λt Y=>Ite t (Q x Y) (F Z Y Q X)
noncomputable def bm3(F:Lo->Hp->BP->XP->Prop)(Z:Lo)(Q:BP)(X:XP):BP:=λt Y=>Ite t (F Z Y Q X) (Q false Y)
noncomputable def orT(F:Lo->Hp->BP->XP->Prop)(Z:Lo)(Q:BP)(X:XP):BP:=λt Y=>Ite t (Q true Y) (F Z Y Q X)
noncomputable def ce7(Q:List V->Hp->Prop)(v:V):List V->Hp->Prop:=λl Y=>Q (v::l) Y
noncomputable def esK(F:Lo->Hp->(List V->Hp->Prop)->XP->Prop)(Z:Lo)(Q:List V->Hp->Prop)(X:XP):VP:=λv Y=>F Z Y (ce7 Q v) X
noncomputable def cc7(Q:VP):List V->Hp->Prop:=λl Y=>Q (.tup l) Y
noncomputable def ca5(Q:VP):List V->Hp->Prop:=λl Y=>New Y λa=>Q (.ref a) (upd Y a (.lst l))
noncomputable def clK(g:G)(d:Nat)(q:Bool)(f:Str)(Q:VP)(X:XP):List V->Hp->Prop:=λl Y=>c7 g d q f l Y Q X
noncomputable def biK(g:G)(q:Bool)(b:BI)(Q:VP):List V->Hp->Prop:=λl Y=>wBi g q b l Y Q
noncomputable def itK(Q:List V->(Hp->Prop)->Hp->Prop):VP:=λx Y=>wIt Q Y x
noncomputable def bE6(Q:List V->(Hp->Prop)->Hp->Prop):VP:=λx Y=>N3 (λb=>Req (j4 b) (Q (k8 0 1 (b-0).toNat) (λz_=>True) Y)) x
noncomputable def bS1(Z:Lo)(turn:V->Lo->Hp->d6->Prop)(Q:d6):VP:=λx Y=>wLt Z turn Q Y x
noncomputable def sq(F:Lo->Hp->d6->j3->Prop)(Q:d6)(X:j3):d6:=λf Z Y=>match f with
 | .next=>F Z Y Q X
 | f=>Q f Z Y
noncomputable def aP0(Z:Lo)(Q:d6):VP:=λv Y=>Q (.ret v) Z Y
noncomputable def bx8(F H:Lo->Hp->d6->j3->Prop)(Z:Lo)(Q:d6)(X:j3):BP:=λc Y=>Ite c (F Z Y Q X) (H Z Y Q X)
noncomputable def cf7(i:Nat)(Z:Lo)(Q:d6):VP:=λv Y=>Q .next (Z.set i (some v)) Y
noncomputable def bl1(Z:Lo)(Q:d6):VP:=λz_ Y=>Q .next Z Y
noncomputable def lpK(F:Lo->Hp->d6->j3->Prop)(i:Nat)(X:j3):V->Lo->Hp->d6->Prop:=λv Z Y Q=>F (Z.set i (some v)) Y Q X
noncomputable def bf6(F:Lo->Hp->d6->j3->Prop)(Z:Lo)(Q:d6)(X:j3)(no:Hp->Prop):BP:=λb Y=>Ite b (F Z Y Q X) (no Y)
noncomputable def bm7(E:Lo->Hp->VP->XP->Prop)(Z:Lo)(yes:VP)(no:Hp->Prop):BP:=λb Y=>Ite b (E Z Y yes noX) (no Y)
noncomputable def whK(T:Lo->Hp->BP->XP->Prop)(F:Lo->Hp->d6->j3->Prop)(X:j3):Lo->Hp->d6->(Hp->Prop)->Prop:=λZ Y Q' no=>T Z Y (bf6 F Z Q' X no) (xE X Z)
noncomputable def bh7(C:Lo->Hp->BP->Prop)(E:Lo->Hp->VP->XP->Prop)(Z:Lo)(js:List Nat):V->Hp->VP->(Hp->Prop)->Prop:=λv Y yes no=>C (some v::x5 Z js) Y (bm7 E (some v::x5 Z js) yes no)
noncomputable def bx6(turn:V->Hp->VP->(Hp->Prop)->Prop)(Q:VP):List V->(Hp->Prop)->Hp->Prop:=λL K Y=>CLoop L K Y turn Q
noncomputable def bT0(m:ME)(a:Addr)(Q:VP):List V->Hp->Prop:=λl Y=>wMe m a l Y Q
noncomputable def cd2(m:ME)(F:Lo->Hp->(List V->Hp->Prop)->XP->Prop)(Z:Lo)(Q:VP)(X:XP):VP:=λx Y=>z9 (λa=>Look Y a λz_=>F Z Y (bT0 m a Q) X) x
noncomputable def aM8(t:TY)(Q:VP):VP:=λx Y=>aN3 t x Y Q
mutual
noncomputable def wE(g:G)(d:Nat)(q:Bool):IE->Lo->Hp->VP->XP->Prop
 | .k v,Z,Y,Q,X=>Q v Y
 | .v i,Z,Y,Q,X=>vAt Z i λv=>Q v Y
 | .bin op a b,Z,Y,Q,X=>wE g d q a Z Y (k2 (wE g d q b) Z (bv2 op Q) X) X
 | .cmp op a b,Z,Y,Q,X=>wE g d q a Z Y (k2 (wE g d q b) Z (at5 d op Q) X) X
 | .chain o p a b c,Z,Y,Q,X=>wE g d q a Z Y (λx Y=>wE g d q b Z Y (λy Y=>L5 d o x y Y λt Y=>D4 t Y λtt Y=>Ite tt (wE g d q c Z Y (λz Y=>L5 d p y z Y Q) X) (Q t Y)) X) X
 | .not a,Z,Y,Q,X=>wE g d q a Z Y (J6 (ba3 Q)) X
 | .neg a,Z,Y,Q,X=>wE g d q a Z Y (λx Y=>N3 (λi=>Q (.int (-i)) Y) x) X
 | .and a b,Z,Y,Q,X=>wE g d q a Z Y (bY0 (wE g d q b) Z Q X) X
 | .or a b,Z,Y,Q,X=>wE g d q a Z Y (orK (wE g d q b) Z Q X) X
 | .tup es,Z,Y,Q,X=>wEs g d q es Z Y (cc7 Q) X
 | .lst es,Z,Y,Q,X=>wEs g d q es Z Y (ca5 Q) X
 | .itm a b,Z,Y,Q,X=>wE g d q a Z Y (k2 (wE g d q b) Z (at8 g Q) X) X
 | .itk a n,Z,Y,Q,X=>wE g d q a Z Y (aw2 g n Q) X
 | .pick es i,Z,Y,Q,X=>wEs g d q es Z Y (λl Y=>wE g d q i Z Y (λk Y=>bq8 l k Y Q) X) X
 | .slc a lo hi,Z,Y,Q,X=>wE g d q a Z Y (λx Y=>wE g d q lo Z Y (λu Y=>wE g d q hi Z Y (λw Y=>ag1 u λu=>ag1 w λw=>aD7 u w x Y Q) X) X) X
 | .call f es,Z,Y,Q,X=>wEs g d q es Z Y (clK g d q f Q X) X
 | .bi b es,Z,Y,Q,X=>wEs g d q es Z Y (biK g q b Q) X
 | .isi a t,Z,Y,Q,X=>wE g d q a Z Y (aM8 t Q) X
 | .meth m o es,Z,Y,Q,X=>wE g d q o Z Y (cd2 m (wEs g d q es) Z Q X) X
 | .get D a,Z,Y,Q,X=>wE g d q a Z Y (λx Y=>S0 (λs=>DGet D s λv=>Q v Y) x) X
 | .lrng a,Z,Y,Q,X=>match q with
  | true=>wE g d true a Z Y (λx Y=>N3 (λn=>Req (0<=n/\n<=10000) (New Y λb=>Q (.ref b) (upd Y b (.lst (k8 0 1 n.toNat))))) x) X
  | false=>False
 | .sset a,Z,Y,Q,X=>match q with
  | true=>wE g d true a Z Y (λx Y=>z9 (λa=>SSet Y a Q) x) X
  | false=>False
 | .inl _ _ _,Z,Y,Q,X=>False
 | .comp js elt it cs,Z,Y,Q,X=>match q with
  | true=>wI g d true it Z Y (bx6 (bh7 (wC g d true cs) (wE g d true elt) Z js) Q) X
  | false=>False
 | .pw _ v,Z,Y,Q,X=>Q (.int v) Y
 | .dic0 s,Z,Y,Q,X=>match s with
  | true=>New Y λc=>Q (.ref c) (upd Y c (.ds []))
  | false=>New Y λc=>Q (.ref c) (upd Y c (.di []))
 | .dic1 s a b,Z,Y,Q,X=>wE g d q a Z Y (λx Y=>wE g d q b Z Y (λy Y=>cb6 s x y Y Q) X) X
 | .isx a _ ys ns,Z,Y,Q,X=>wE g d q a Z Y (λx Y=>z9 (λa=>LookX Y a λx=>HitB x ys ns λb=>Q (.bool b) Y) x) X
 | .dg2 a k z,Z,Y,Q,X=>wE g d q a Z Y (λx Y=>z9 (λa=>LookS Y a λz_=>wE g d q k Z Y (λy Y=>wE g d q z Z Y (λw Y=>S0 (λn=>LookS Y a λl=>Q ((j9 l n).getD w) Y) y) X) X) x) X
 | .isl a,Z,Y,Q,X=>wE g d q a Z Y (λx Y=>aH1 Y Q x) X
 | .dik ks es,Z,Y,Q,X=>wEs g d q es Z Y (λl Y=>New Y λa=>Q (.ref a) (upd Y a (.ds (ks.zip l)))) X
noncomputable def wEs(g:G)(d:Nat)(q:Bool):IEs->Lo->Hp->(List V->Hp->Prop)->XP->Prop
 | .nil,Z,Y,Q,X=>Q [] Y
 | .cons e es,Z,Y,Q,X=>wE g d q e Z Y (esK (wEs g d q es) Z Q X) X
noncomputable def wI(g:G)(d:Nat)(q:Bool):II->Lo->Hp->(List V->(Hp->Prop)->Hp->Prop)->XP->Prop
 | .e a,Z,Y,Q,X=>wE g d q a Z Y (itK Q) X
 | .r1 a,Z,Y,Q,X=>wE g d q a Z Y (bE6 Q) X
noncomputable def wT(g:G)(d:Nat)(q:Bool):IE->Lo->Hp->BP->XP->Prop
 | .and a b,Z,Y,Q,X=>wT g d q a Z Y (bm3 (wT g d q b) Z Q X) X
 | .or a b,Z,Y,Q,X=>wT g d q a Z Y (orT (wT g d q b) Z Q X) X
 | .not a,Z,Y,Q,X=>wT g d q a Z Y (λt Y=>Q (!t) Y) X
 | .chain o p a b c,Z,Y,Q,X=>wE g d q a Z Y (λx Y=>wE g d q b Z Y (λy Y=>L5 d o x y Y λt Y=>D4 t Y λtt Y=>Ite tt (wE g d q c Z Y (λz Y=>L5 d p y z Y λt Y=>D4 t Y Q) X) (Q false Y)) X) X
 | .inl n a es,Z,Y,Q,X=>wE g d q a Z Y (λx Y=>wEs g d q es Z Y (λl Y=>S0 (λx=>Z6 l λss=>match n with
  | true=>Q (!ss.any (· == x)) Y
  | false=>Q (ss.any (· == x)) Y) x) X) X
 | .cmp op a b,Z,Y,Q,X=>wE g d q a Z Y (k2 (wE g d q b) Z (at5 d op (J6 Q)) X) X
 | .v i,Z,Y,Q,X=>vAt Z i λv=>D4 v Y Q
 | .call f es,Z,Y,Q,X=>wEs g d q es Z Y (clK g d q f (J6 Q) X) X
 | .isi a t,Z,Y,Q,X=>wE g d q a Z Y (aM8 t (J6 Q)) X
 | .isl a,Z,Y,Q,X=>wE g d q a Z Y (λx Y=>aH1 Y (λv Y=>D4 v Y Q) x) X
 | .bi b es,Z,Y,Q,X=>wEs g d q es Z Y (biK g q b (J6 Q)) X
 | .itm a b,Z,Y,Q,X=>wE g d q a Z Y (k2 (wE g d q b) Z (at8 g (J6 Q)) X) X
 | .itk a n,Z,Y,Q,X=>wE g d q a Z Y (aw2 g n (J6 Q)) X
 | _,_,_,_,_=>False
noncomputable def wC(g:G)(d:Nat)(q:Bool):IEs->Lo->Hp->BP->Prop
 | .nil,Z,Y,Q=>Q true Y
 | .cons t .nil,Z,Y,Q=>wT g d q t Z Y Q noX
 | _,_,_,_=>False
end
noncomputable def L1:List Nat->List V->Lo->(Lo->Prop)->Prop
 | [],[],Z,K=>K Z
 | i::is,v::vs,Z,K=>L1 is vs (Z.set i (some v)) K
 | _,_,_,_=>False
noncomputable def S9(P:List V->Prop):V->Prop
 | .tup a=>P a
 | _=>False
noncomputable def ay9:j3:=λz_ z_ z_=>False
noncomputable def ah8(g:G)(d:Nat)(it:II)(Z:Lo)(Y:Hp)(turn:V->Lo->Hp->d6->Prop)(Q:d6)(X:XP):Prop:=match it with
 | .e a=>wE g d true a Z Y (bS1 Z turn Q) X
 | it=>wI g d true it Z Y (λL K Y=>Loop L K Z Y turn Q) X
mutual
noncomputable def wS(g:G)(d:Nat)(q:Bool):IS->Lo->Hp->d6->j3->Prop
 | .ret e,Z,Y,Q,X=>wE g d q e Z Y (aP0 Z Q) (xE X Z)
 | .iff t a b,Z,Y,Q,X=>wT g d q t Z Y (bx8 (wSs g d q a) (wSs g d q b) Z Q X) (xE X Z)
 | .asg i e,Z,Y,Q,X=>wE g d q e Z Y (cf7 i Z Q) (xE X Z)
 | .seti o i e,Z,Y,Q,X=>wE g d q e Z Y (λv Y=>wE g d q o Z Y (λa Y=>wE g d q i Z Y (λk Y=>
   z9 (λa=>aM0 Y a v (λY=>Q .next Z Y) k) a) (xE X Z)) (xE X Z)) (xE X Z)
 | .swap i j a b,Z,Y,Q,X=>match q with
  | true=>wE g d true a Z Y (λu Y=>wE g d true b Z Y (λw Y=>Q .next ((Z.set j (some w)).set i (some u)) Y) (xE X Z)) (xE X Z)
  | false=>False
 | .unp is i,Z,Y,Q,X=>match q with
  | true=>vAt Z i λv=>S9 (λl=>L1 is l Z λZ=>Q .next Z Y) v
  | false=>False
 | .expr e,Z,Y,Q,X=>wE g d q e Z Y (bl1 Z Q) (xE X Z)
 | .brk,Z,Y,Q,X=>Q .brk Z Y
 | .loop i it body,Z,Y,Q,X=>match q with
  | true=>ah8 g d it Z Y (lpK (wSs g d true body) i X) Q (xE X Z)
  | false=>False
 | .loops is it body,Z,Y,Q,X=>match q with
  | true=>ah8 g d it Z Y (λv Z Y Q=>S9 (λl=>L1 is l Z λZ=>wSs g d true body Z Y Q X) v) Q (xE X Z)
  | false=>False
 | .loopz is es body,Z,Y,Q,X=>match q with
  | true=>wEs g d true es Z Y (λl Y=>duo (λx y=>z9 (λa=>S9 (λb=>LoopZ a b Z Y (λv Z Y Q=>L1 is v Z λZ=>wSs g d true body Z Y Q X) Q) y) x) l) (xE X Z)
  | false=>False
 | .whil t body,Z,Y,Q,X=>Whl Z Y (whK (wT g d q t) (wSs g d q body) X) Q
 | .rais x es,Z,Y,Q,X=>match q with
  | true=>wEs g d true es Z Y (λz_ Y=>X x Z Y) (xE X Z)
  | false=>False
 | .tri b hs,Z,Y,Q,X=>wSs g d q b Z Y Q (λx Z Y=>wH g d hs x Z Y Q X)
noncomputable def wSs(g:G)(d:Nat)(q:Bool):ISs->Lo->Hp->d6->j3->Prop
 | .nil,Z,Y,Q,X=>Q .next Z Y
 | .cons s ss,Z,Y,Q,X=>wS g d q s Z Y (sq (wSs g d q ss) Q X) X
 | .stop ss,Z,Y,Q,X=>Stop (wSs g d q ss Z Y Q X)
 | .drop ss,Z,Y,Q,X=>Drop Y λY=>wSs g d q ss Z Y Q X
 | .any,_,_,_,_=>False
noncomputable def wH(g:G)(d:Nat):IHs->Str->Lo->Hp->d6->j3->Prop
 | .nil,x,Z,Y,Q,X=>X x Z Y
 | .cons _ ys ns n suite rest,x,Z,Y,Q,X=>Hit x ys ns (match n with
  | none=>wSs g d false suite Z Y Q ay9
  | some i=>New Y λa=>wSs g d false suite (Z.set i (some (.ref a))) (upd Y a (.ex x)) (λf z_ Y'=>Q f (Z.map λz_=>none) Y') ay9) (wH g d rest x Z Y Q X)
end
noncomputable def e8(Q:VP):d6:=λf z_ Y=>match f with
 | .ret v=>Ret v Y Q
 | _=>Ret .none Y Q
inductive Item where
 | fn (k:Nat)
 | int (i:Int)
 | str (s:Str)
 | bi (id:String)
 | ty (id:String)
 | dict (D:List (Str×Int))
 | cls (C:Addr) (bm:List Value)
abbrev Tab:=List (Str×Item)
noncomputable def ag9(g:G)(x:Str):Item->Prop
 | .fn k=>FnAt g x (e9 g.prog k).params (e9 g.prog k).body (e9 g.prog k).scope
 | .int i=>Gi g x i
 | .str s=>Gs g x s
 | .bi id=>Bi g x (.builtin id)
 | .ty id=>Bi g x (.type id)
 | .dict D=>Gd g x D
 | .cls C bm=>XC g x C bm
class inductive TabOK (g:G):Tab->Prop
 | nil:TabOK g []
 | cons {x:Str} {it:Item} {T:Tab} (h:ag9 g x it) (r:TabOK g T):TabOK g ((x,it)::T)
theorem TabOK.at'{g:G}{T:Tab}(h:TabOK g T):∀ {x:Str} {it:Item},T.lookup x=some it->ag9 g x it:=by
 induction h with
 | nil=>intro x it e;cases e
 | @cons y jt T h r ih=>
  intro x it e;rw[aR] at e;cases hy:x==y with
  | true=>rw[hy] at e;cases e;rw[beq_iff_eq.mp hy];exact h
  | false=>rw[hy] at e;exact ih e
theorem no{α:Type}{t:α}{P:Prop}(h:none=some t):P:=nomatch h
structure EP where
 name:Option Str:=none
 const:Option Const:=none
 bin:Option (Expr×Operator×Expr):=none
 un:Option (UnaryOp×Expr):=none
 bool:Option (BoolOp×List Expr×Pos):=none
 cmp:Option (Expr×List CmpOp×List Expr):=none
 tup:Option (List Expr):=none
 lst:Option (List Expr):=none
 sub:Option (Expr×Expr):=none
 slc:Option (Option Expr×Option Expr×Option Expr):=none
 call:Option (Expr×List Expr×List Keyword×Pos):=none
 attr:Option (Expr×Str×Pos):=none
 comp:Option (Expr×List Comprehension×Scope):=none
 dict:Option (List (Option Expr)×List Expr):=none
 star:Bool:=false
 set:Bool:=false
 odd:Bool:=false
noncomputable def EP.z:EP:={}
noncomputable def EP.o:EP:={odd:=true}
noncomputable def ep(e:Expr):EP:=Expr.casesOn (motive_1:=λz_=>EP) e (λo l p=>{bool:=some (o,l,p)}) (λz_ z_ z_=>.z) (λl o r z_=>{bin:=some (l,o,r)}) (λo r z_=>{un:=some (o,r)}) (λz_ z_ z_ z_=>.z) (λz_ z_ z_ z_=>.o) (λk v z_=>{dict:=some (k,v)}) (λz_ z_ z_=>{set:=true,odd:=true}) (λe l s z_=>{comp:=some (e,l,s),odd:=true}) (λz_ z_ z_ z_=>.o) (λz_ z_ z_ z_ z_=>.o) (λz_ z_ z_ z_=>.z) (λz_ z_=>.z) (λz_ z_=>.z) (λz_ z_=>.z) (λl o r z_=>{cmp:=some (l,o,r)}) (λf a k p=>{call:=some (f,a,k,p)}) (λz_ z_ z_ z_=>.z) (λz_ z_=>.z) (λc z_ z_=>{const:=some c}) (λo x p=>{attr:=some (o,x,p)}) (λa b z_=>{sub:=some (a,b)}) (λz_ z_=>{star:=true,odd:=true}) (λx z_=>{name:=some x}) (λl z_=>{lst:=some l}) (λl z_ z_=>{tup:=some l}) (λa b c z_=>{slc:=some (a,b,c)})
structure EOK(p:EP)(x:Expr):Prop where
 name:∀ t,p.name=some t->∃ p,x=.Name t p
 const:∀ t,p.const=some t->∃ k p,x=.Constant t k p
 bin:∀ t,p.bin=some t->∃ p,x=.BinOp t.1 t.2.1 t.2.2 p
 un:∀ t,p.un=some t->∃ p,x=.UnaryOp t.1 t.2 p
 bool:∀ t,p.bool=some t->x=.BoolOp t.1 t.2.1 t.2.2
 cmp:∀ t,p.cmp=some t->∃ p,x=.Compare t.1 t.2.1 t.2.2 p
 tup:∀ t,p.tup=some t->∃ k p,x=.Tuple t k p
 lst:∀ t,p.lst=some t->∃ p,x=.List t p
 sub:∀ t,p.sub=some t->∃ p,x=.Subscript t.1 t.2 p
 slc:∀ t,p.slc=some t->∃ p,x=.Slice t.1 t.2.1 t.2.2 p
 call:∀ t,p.call=some t->x=.Call t.1 t.2.1 t.2.2.1 t.2.2.2
 attr:∀ t,p.attr=some t->x=.Attribute t.1 t.2.1 t.2.2
 comp:∀ t,p.comp=some t->∃ p,x=.ListComp t.1 t.2.1 t.2.2 p
 dict:∀ t,p.dict=some t->∃ p,x=.Dict t.1 t.2 p
theorem s5{x:Expr}:EOK .z x:=⟨λz_=>no,λz_=>no,λz_=>no,λz_=>no,λz_=>no,λz_=>no,λz_=>no,λz_=>no,λz_=>no,λz_=>no,λz_=>no,λz_=>no,λz_=>no,λz_=>no⟩
theorem af8{x:Expr}:EOK .o x:=⟨λz_=>no,λz_=>no,λz_=>no,λz_=>no,λz_=>no,λz_=>no,λz_=>no,λz_=>no,λz_=>no,λz_=>no,λz_=>no,λz_=>no,λz_=>no,λz_=>no⟩
theorem y0(e:Expr):EOK (ep e) e:=Expr.casesOn (motive_1:=λe=>EOK (ep e) e) e
 (λo l p=>{(s5:EOK .z _) with bool:=λt h=>by obtain rfl:=Option.some.inj h;rfl})
 (λz_ z_ z_=>s5)
 (λl o r p=>{(s5:EOK .z _) with bin:=λt h=>by obtain rfl:=Option.some.inj h;exact⟨p,rfl⟩})
 (λo r p=>{(s5:EOK .z _) with un:=λt h=>by obtain rfl:=Option.some.inj h;exact⟨p,rfl⟩})
 (λz_ z_ z_ z_=>s5) (λz_ z_ z_ z_=>af8) (λk v p=>{(s5:EOK .z _) with dict:=λt h=>by obtain rfl:=Option.some.inj h;exact⟨p,rfl⟩}) (λz_ z_ z_=>{(s5:EOK .z _) with})
 (λe l s p=>{(s5:EOK .z _) with comp:=λt h=>by obtain rfl:=Option.some.inj h;exact⟨p,rfl⟩})
 (λz_ z_ z_ z_=>af8) (λz_ z_ z_ z_ z_=>af8) (λz_ z_ z_ z_=>s5) (λz_ z_=>s5) (λz_ z_=>s5) (λz_ z_=>s5)
 (λl o r p=>{(s5:EOK .z _) with cmp:=λt h=>by obtain rfl:=Option.some.inj h;exact⟨p,rfl⟩})
 (λf a k p=>{(s5:EOK .z _) with call:=λt h=>by obtain rfl:=Option.some.inj h;rfl})
 (λz_ z_ z_ z_=>s5) (λz_ z_=>s5)
 (λc k p=>{(s5:EOK .z _) with const:=λt h=>by obtain rfl:=Option.some.inj h;exact⟨k,p,rfl⟩})
 (λo x p=>{(s5:EOK .z _) with attr:=λt h=>by obtain rfl:=Option.some.inj h;rfl})
 (λa b p=>{(s5:EOK .z _) with sub:=λt h=>by obtain rfl:=Option.some.inj h;exact⟨p,rfl⟩})
 (λz_ z_=>{(s5:EOK .z _) with})
 (λx p=>{(s5:EOK .z _) with name:=λt h=>by obtain rfl:=Option.some.inj h;exact⟨p,rfl⟩})
 (λl p=>{(s5:EOK .z _) with lst:=λt h=>by obtain rfl:=Option.some.inj h;exact⟨p,rfl⟩})
 (λl k p=>{(s5:EOK .z _) with tup:=λt h=>by obtain rfl:=Option.some.inj h;exact⟨k,p,rfl⟩})
 (λa b c p=>{(s5:EOK .z _) with slc:=λt h=>by obtain rfl:=Option.some.inj h;exact⟨p,rfl⟩})
noncomputable def t7(e:Expr):Option Str:=(ep e).name
theorem D1{x:Expr}{t:Str}(h:t7 x=some t):∃ p,x=.Name t p:=(y0 x).name t h
noncomputable def C3(e:Expr):Option Const:=(ep e).const
theorem aE6{x:Expr}{t:Const}(h:C3 x=some t):∃ k p,x=.Constant t k p:=(y0 x).const t h
noncomputable def V3(e:Expr):Option (Expr×Operator×Expr):=(ep e).bin
theorem ce5{x:Expr}{t:(Expr×Operator×Expr)}(h:V3 x=some t):∃ p,x=.BinOp t.1 t.2.1 t.2.2 p:=(y0 x).bin t h
noncomputable def R4(e:Expr):Option (UnaryOp×Expr):=(ep e).un
theorem bF3{x:Expr}{t:(UnaryOp×Expr)}(h:R4 x=some t):∃ p,x=.UnaryOp t.1 t.2 p:=(y0 x).un t h
noncomputable def S6(e:Expr):Option (BoolOp×List Expr×Pos):=(ep e).bool
theorem bQ2{x:Expr}{t:(BoolOp×List Expr×Pos)}(h:S6 x=some t):x=.BoolOp t.1 t.2.1 t.2.2:=(y0 x).bool t h
noncomputable def L9(e:Expr):Option (Expr×List CmpOp×List Expr):=(ep e).cmp
theorem aj3{x:Expr}{t:(Expr×List CmpOp×List Expr)}(h:L9 x=some t):∃ p,x=.Compare t.1 t.2.1 t.2.2 p:=(y0 x).cmp t h
noncomputable def F3(e:Expr):Option (List Expr):=(ep e).tup
theorem S8{x:Expr}{t:(List Expr)}(h:F3 x=some t):∃ k p,x=.Tuple t k p:=(y0 x).tup t h
noncomputable def O6(e:Expr):Option (List Expr):=(ep e).lst
theorem ab9{x:Expr}{t:(List Expr)}(h:O6 x=some t):∃ p,x=.List t p:=(y0 x).lst t h
noncomputable def H5(e:Expr):Option (Expr×Expr):=(ep e).sub
theorem aH0{x:Expr}{t:(Expr×Expr)}(h:H5 x=some t):∃ p,x=.Subscript t.1 t.2 p:=(y0 x).sub t h
noncomputable def J5(e:Expr):Option (Option Expr×Option Expr×Option Expr):=(ep e).slc
theorem bQ0{x:Expr}{t:(Option Expr×Option Expr×Option Expr)}(h:J5 x=some t):∃ p,x=.Slice t.1 t.2.1 t.2.2 p:=(y0 x).slc t h
noncomputable def F5(e:Expr):Option (Expr×List Expr×List Keyword×Pos):=(ep e).call
theorem as7{x:Expr}{t:(Expr×List Expr×List Keyword×Pos)}(h:F5 x=some t):x=.Call t.1 t.2.1 t.2.2.1 t.2.2.2:=(y0 x).call t h
noncomputable def Q8(e:Expr):Option (Expr×Str×Pos):=(ep e).attr
theorem bs2{x:Expr}{t:(Expr×Str×Pos)}(h:Q8 x=some t):x=.Attribute t.1 t.2.1 t.2.2:=(y0 x).attr t h
noncomputable def ad1(e:Expr):Option (Expr×List Comprehension×Scope):=(ep e).comp
theorem bY7{x:Expr}{t:(Expr×List Comprehension×Scope)}(h:ad1 x=some t):∃ p,x=.ListComp t.1 t.2.1 t.2.2 p:=(y0 x).comp t h
noncomputable def Z3(e:Expr):Option (List (Option Expr)×List Expr):=(ep e).dict
theorem ak5{x:Expr}{t:List (Option Expr)×List Expr}(h:Z3 x=some t):∃ p,x=.Dict t.1 t.2 p:=(y0 x).dict t h
noncomputable def star(e:Expr):Bool:=(ep e).star
noncomputable def aj8(e:Expr):Bool:=(ep e).set
noncomputable def odd(e:Expr):Bool:=(ep e).odd
noncomputable def L4(e:Expr):Bool:=!odd e&&(R4 e).isNone&&(S6 e).isNone&&(L9 e).isNone
structure EOF(x:Expr):Prop where
 star:star x=false->∀ (es:List Expr) (env:Env),starEach (x::es) env=(false,eval x env)::starEach es env
 swaps:odd x=false->∀ (t:Option Expr) (n:Nat) (env:Env),swapsWith x t n env=pure false
 swsub:∀ (o i:Expr) (p:Pos) (n:Nat) (env:Env),swapsWith x (some (.Subscript o i p)) n env=pure false
 fold:aj8 x=false->∀ (env:Env) (v:Value),foldedSetIterable x env v=pure v
 subs:J5 x=none->∀ (o i:Value),subscripted x false o i=operate [o,i] (getItem o i)
 base:F5 x=none->∀ (n:Str) (env:Env) (w:Sem Value),attributeBase x n env w=w
 tru:L4 x=true->∀ (env:Env) (w:Sem Value),isTrue x env w=(do let v <- w;standAt x.pos;holding [v] (truthy v))
theorem ft{P:Prop}(h:true=false):P:=(ac h.symm).elim
theorem tf{P:Prop}(h:false=true):P:=(ac h).elim
theorem sn{α:Type}{t:α}{P:Prop}(h:some t=none):P:=nomatch h
theorem J4(x:Expr):EOF x:=by
 refine Expr.casesOn (motive_1:=λx=>EOF x) x ?_ ?_ ?_ ?_ ?_ ?_ ?_ ?_ ?_ ?_ ?_ ?_ ?_ ?_ ?_ ?_ ?_ ?_ ?_ ?_ ?_ ?_ ?_ ?_ ?_ ?_ ?_<;>intros<;>refine⟨?_,?_,λz_ z_ z_ z_ z_=>rfl,?_,?_,?_,?_⟩
 all_goals first | exact λz_ z_ z_=>rfl | exact λz_ z_ z_ z_=>rfl | exact ft | exact sn | exact tf
theorem z7{e:Expr}(h:star e=false){es:List Expr}{env:Env}:starEach (e::es) env=(false,eval e env)::starEach es env:=(J4 e).star h _ _
theorem at0{e:Expr}(h:odd e=false){t:Option Expr}{n:Nat}{env:Env}:swapsWith e t n env=pure false:=(J4 e).swaps h _ _ _
theorem bE0{e o i:Expr}{p:Pos}{n:Nat}{env:Env}:swapsWith e (some (.Subscript o i p)) n env=pure false:=(J4 e).swsub _ _ _ _ _
theorem aC9{e:Expr}(h:aj8 e=false){env:Env}{x:Value}:foldedSetIterable e env x=pure x:=(J4 e).fold h _ _
theorem ah0{e:Expr}(h:J5 e=none){o i:Value}:subscripted e false o i=operate [o,i] (getItem o i):=(J4 e).subs h _ _
theorem bX1{e:Expr}(h:F5 e=none){x:Str}{env:Env}{w:Sem Value}:attributeBase e x env w=w:=(J4 e).base h _ _ _
theorem bE8{e:Expr}(h:L4 e=true){env:Env}{w:Sem Value}:isTrue e env w=(do let v <- w;standAt e.pos;holding [v] (truthy v)):=(J4 e).tru h _ _
noncomputable def Q4(o:BoolOp)(p:Pos)(e:Expr):List Expr->Expr
 | []=>e
 | es=>.BoolOp o (e::es) p
noncomputable def gl(sc:Scope)(x:Str):Bool:=decide (sc.names.lookup x=some .globalImplicit) && !(x==("__debug__" : Str))
noncomputable def at6:Option Item->Bool
 | some (.fn _)=>true
 | _=>false
noncomputable def C7(id:String):Option Item->Bool
 | some (.bi x)=>decide (x=id)
 | _=>false
noncomputable def B1(id:String):Option Item->Bool
 | some (.ty x)=>decide (x=id)
 | _=>false
noncomputable def ap6(D:List (Str×Int)):Option Item->Bool
 | some (.dict x)=>decide (x=D)
 | _=>false
noncomputable def W7:Option Item->Bool
 | some (.cls _ _)=>true
 | _=>false
noncomputable def M3(b:Bool):Option Item->Option Item->Bool
 | some (.cls C bm),some (.cls C' _)=>(Value.ref C::bm).contains (.ref C')==b
 | some (.cls _ _),some (.ty id)=>decide (id = "ValueError")&&b
 | _,_=>false
noncomputable def U2(T:Tab)(y:Str)(ys ns:List Str):Bool:=ys.all (λx=>M3 true (T.lookup x) (T.lookup y))&&ns.all (λx=>M3 false (T.lookup x) (T.lookup y))
noncomputable def isV:Option Item->V->Bool
 | some (.int i),.int j=>decide (i=j)
 | some (.str i),.str j=>decide (i=j)
 | _,_=>false
noncomputable def isC:Option Const->V->Bool
 | some .none,.none=>true
 | some (.bool i),.bool j=>decide (i=j)
 | some (.int i),.int j=>decide (i=j)
 | some (.str i),.str j=>decide (i=j)
 | _,_=>false
noncomputable def isG(T:Tab)(sc:Scope)(v:V):Option Str->Bool
 | some n=>gl sc n&&isV (T.lookup n) v
 | none=>false
noncomputable def BI.has(b:BI)(o:Option Item):Bool:=match b with
 | .len=>C7 "len" o
 | .all=>C7 "all" o
 | .int=>B1 "int" o
 | .min=>C7 "min" o
 | .max=>C7 "max" o
 | .sorted=>C7 "sorted" o
 | .tuple=>B1 "tuple" o
 | .list=>B1 "list" o
 | .sum=>C7 "sum" o
 | .dict=>B1 "dict" o
noncomputable def TY.nm:TY->String
 | .int=>"int"
 | .bool=>"bool"
 | .str=>"str"
 | .tuple=>"tuple"
 | .list=>"list"
noncomputable def ME.nm:ME->Str
 | .append=>Str.ofString "append"
 | .pop=>Str.ofString "pop"
noncomputable def am0:IE->Bool
 | .k .none=>true
 | _=>false
noncomputable def ad6(f:Expr->Bool)(z:Bool):Option Expr->Bool
 | none=>z
 | some e=>f e
noncomputable def d7{α:Type}(o:Option α)(f:α->Bool):Bool:=match o with
 | some t=>f t
 | none=>false
noncomputable def one{α:Type}(l:List α)(f:α->Bool):Bool:=match l with
 | [x]=>f x
 | _=>false
noncomputable def two{α:Type}(l:List α)(f:α->α->Bool):Bool:=match l with
 | [x,y]=>f x y
 | _=>false
noncomputable def ai1{α:Type}(l:List α)(f:α->α->List α->Bool):Bool:=match l with
 | x::y::r=>f x y r
 | _=>false
theorem b9{a b:Bool}(h:(a&&b)=true):a=true/\b=true:=by cases a<;>cases b<;>first | exact⟨rfl,rfl⟩ | exact(ac h).elim
inductive A7(a b c d e f g:Bool):Prop
 | mk (h1:a=true) (h2:b=true) (h3:c=true) (h4:d=true) (h5:e=true) (h6:f=true) (h7:g=true):A7 a b c d e f g
theorem ar6{a b c d e f g:Bool}(h:(a&&(b&&(c&&(d&&(e&&(f&&g))))))=true):A7 a b c d e f g:=
 ⟨(b9 h).1,(b9 (b9 h).2).1,(b9 (b9 (b9 h).2).2).1,(b9 (b9 (b9 (b9 h).2).2).2).1,(b9 (b9 (b9 (b9 (b9 h).2).2).2).2).1,(b9 (b9 (b9 (b9 (b9 (b9 h).2).2).2).2).2).1,(b9 (b9 (b9 (b9 (b9 (b9 h).2).2).2).2).2).2⟩
theorem m8{a:Bool}(h:(!a)=true):a=false:=by cases a<;>first | rfl | exact(ac h).elim
theorem i7{α:Type}{o:Option α}{f:α->Bool}(h:d7 o f=true):∃ t,o=some t/\f t=true:=by
 cases o with
 | none=>exact(ac h).elim
 | some t=>exact⟨t,rfl,h⟩
theorem s9{α:Type}{l:List α}{f:α->Bool}(h:one l f=true):∃ t,l=[t]/\f t=true:=by
 cases l with
 | nil=>exact(ac h).elim
 | cons x l=>cases l with
  | nil=>exact⟨x,rfl,h⟩
  | cons _ _=>exact(ac h).elim
theorem A8{α:Type}{l:List α}{f:α->α->Bool}(h:two l f=true):∃ t u,l=[t,u]/\f t u=true:=by
 cases l with
 | nil=>exact(ac h).elim
 | cons x l=>cases l with
  | nil=>exact(ac h).elim
  | cons y l=>cases l with
   | nil=>exact⟨x,y,rfl,h⟩
   | cons _ _=>exact(ac h).elim
theorem W8{α:Type}{l:List α}{f:α->α->List α->Bool}(h:ai1 l f=true):∃ t u r,l=t::u::r/\f t u r=true:=by
 cases l with
 | nil=>exact(ac h).elim
 | cons x l=>cases l with
  | nil=>exact(ac h).elim
  | cons y l=>exact⟨x,y,l,rfl,h⟩
noncomputable def w0(x:Expr)(P:Str->List Expr->Bool):Bool:=d7 (F5 x) λt=>t.2.2.1.isEmpty&&d7 (t7 t.1) λn=>P n t.2.1
theorem z0{x:Expr}{P:Str->List Expr->Bool}(h:w0 x P=true):∃ n as np p,x=.Call (.Name n np) as [] p/\P n as=true:=by
 refine a9 (i7 h) λt e h=>?_
 refine c5 (b9 h) λh0 h=>?_
 refine a9 (i7 h) λn e' h=>?_
 refine c6 (D1 e') λnp e'=>?_
 exact⟨n,t.2.1,np,t.2.2.2,by rw[as7 e,e',aH.mp h0],h⟩
theorem bj8{x:Expr}{F:Str->List Expr->Bool}{P:Expr->Prop}(h:w0 x F=true)(k:∀ n as np p,F n as=true->P (.Call (.Name n np) as [] p)):P x:=by
 refine B0 (z0 h) λn as np p q1_ e=>?_;subst q1_
 exact k n as np p e
theorem be0{α:Type}{l:List α}{f:α->α->Bool}{P:List α->Prop}(h:two l f=true)(k:∀ t u,f t u=true->P [t,u]):P l:=by
 refine j6 (A8 h) λt u q1_ e=>?_;subst q1_
 exact k t u e
noncomputable def af5(x:Expr):Bool:=(F5 x).isNone||w0 x λz_ as=>!as.isEmpty
theorem aO0{x:Expr}(h:af5 x=true){n:Str}{env:Env}{w:Sem Value}:attributeBase x n env w=w:=by
 rcases(ct _ _).mp h with e | e
 ·exact bX1 (bl.mp e)
 ·obtain⟨m,as,np,p,rfl,e⟩:=z0 (P:=λz_ as=>!as.isEmpty) e
  cases as with
  | nil=>exact tf e
  | cons a as=>rfl
noncomputable def J7:List Str->List (Option Expr)->Bool
 | [],l=>l.isEmpty
 | s::ks,l=>match l with
  | o::l=>d7 o (λe=>isC (C3 e) (.str s))&&J7 ks l
  | []=>false
noncomputable def biC(T:Tab)(sc:Scope)(f:Option Item->Bool)(k:List Expr->Bool)(n:Str)(as:List Expr):Bool:=gl sc n&&(f (T.lookup n)&&k as)
noncomputable def aw1(k:Expr->Bool)(e:Expr):Bool:=!star e&&k e
noncomputable def W4(k:Expr->Bool)(as:List Expr):Bool:=one as k
noncomputable def aM2(T:Tab)(sc:Scope)(id:String)(k:Expr->Bool)(r:Expr):Bool:=w0 r (biC T sc (B1 id) (W4 (aw1 k)))
noncomputable def bO9(k r:Expr->Bool)(e ty:Expr):Bool:=!star e&&(k e&&r ty)
noncomputable def ae1(k r:Expr->Bool)(as:List Expr):Bool:=two as (bO9 k r)
noncomputable def aA2(f:Str->Bool)(x:Expr):Bool:=d7 (t7 x) f
noncomputable def tyN(T:Tab)(sc:Scope)(id:String)(m:Str):Bool:=gl sc m&&B1 id (T.lookup m)
noncomputable def bn3(T:Tab)(sc:Scope)(y:Str)(ys ns:List Str)(m:Str):Bool:=decide (m=y)&&(gl sc m&&((W7 (T.lookup m)||B1 "ValueError" (T.lookup m))&&U2 T m ys ns))
noncomputable def br6(T:Tab)(sc:Scope)(m1 m2:Expr):Bool:=d7 (t7 m1) (tyN T sc "list")&&d7 (t7 m2) (tyN T sc "tuple")
noncomputable def bt1(T:Tab)(sc:Scope)(l:List Expr):Bool:=two l (br6 T sc)
noncomputable def bM3(T:Tab)(sc:Scope)(ty:Expr):Bool:=d7 (F3 ty) (bt1 T sc)
noncomputable def aR8(T:Tab)(sc:Scope)(f:Str)(k:List Expr->Bool)(n:Str)(as:List Expr):Bool:=decide (n=f)&&(gl sc n&&(at6 (T.lookup n)&&k as))
noncomputable def bE1(op:Operator)(k1 k2:Expr->Bool)(t:Expr×Operator×Expr):Bool:=decide (t.2.1=op)&&(k1 t.1&&k2 t.2.2)
noncomputable def bc4(op:CmpOp)(k1 k2:Expr->Bool)(l:Expr)(o:CmpOp)(r:Expr):Bool:=decide (o=op)&&(!behindInMarks o r&&(k1 l&&k2 r))
noncomputable def bz3(op:CmpOp)(k1 k2:Expr->Bool)(l:Expr)(rs:List Expr)(o:CmpOp):Bool:=one rs (bc4 op k1 k2 l o)
noncomputable def bT9(op:CmpOp)(k1 k2:Expr->Bool)(t:Expr×List CmpOp×List Expr):Bool:=one t.2.1 (bz3 op k1 k2 t.1 t.2.2)
noncomputable def br9(o p:CmpOp)(k1 k2 k3:Expr->Bool)(l:Expr)(o' p':CmpOp)(r s:Expr):Bool:=decide (o'=o)&&(decide (p'=p)&&(!lastMarks [o',p'] [r,s]&&(k1 l&&(k2 r&&k3 s))))
noncomputable def aX6(o p:CmpOp)(k1 k2 k3:Expr->Bool)(l:Expr)(rs:List Expr)(o' p':CmpOp):Bool:=two rs (br9 o p k1 k2 k3 l o' p')
noncomputable def bD9(o p:CmpOp)(k1 k2 k3:Expr->Bool)(t:Expr×List CmpOp×List Expr):Bool:=two t.2.1 (aX6 o p k1 k2 k3 t.1 t.2.2)
noncomputable def U6(k:List Expr->Bool)(l:List Expr):Bool:=decide (l.length<=10000)&&k l
noncomputable def bs3(op:CmpOp)(k1:Expr->Bool)(k2:List Expr->Bool)(l:Expr)(o:CmpOp)(r:Expr):Bool:=decide (o=op)&&(k1 l&&d7 (O6 r) (U6 k2))
noncomputable def bz1(op:CmpOp)(k1:Expr->Bool)(k2:List Expr->Bool)(l:Expr)(rs:List Expr)(o:CmpOp):Bool:=one rs (bs3 op k1 k2 l o)
noncomputable def cg7(op:CmpOp)(k1:Expr->Bool)(k2:List Expr->Bool)(t:Expr×List CmpOp×List Expr):Bool:=one t.2.1 (bz1 op k1 k2 t.1 t.2.2)
noncomputable def bG3(k1 k2:Expr->Bool)(t:Expr×Expr):Bool:=(J5 t.2).isNone&&(k1 t.1&&k2 t.2)
noncomputable def bb0(n:Nat)(k:Expr->Bool)(t:Expr×Expr):Bool:=isC (C3 t.2) (.int n)&&(decide (n<=10000)&&k t.1)
noncomputable def bB8(k1:Expr->Bool)(k2:List Expr->Bool)(t:Expr×Expr):Bool:=(J5 t.2).isNone&&(k1 t.2&&d7 (O6 t.1) (U6 k2))
noncomputable def bj9(k1:Expr->Bool)(k2 k3:Option Expr->Bool)(l:Expr)(u:Option Expr×Option Expr×Option Expr):Bool:=u.2.2.isNone&&(k1 l&&(k2 u.1&&k3 u.2.1))
noncomputable def bH6(k1:Expr->Bool)(k2 k3:Option Expr->Bool)(t:Expr×Expr):Bool:=d7 (J5 t.2) (bj9 k1 k2 k3 t.1)
noncomputable def bH3(nm:Str)(k1:Expr->Bool)(k2:List Expr->Bool)(as:List Expr)(p:Pos)(u:Expr×Str×Pos):Bool:=decide (u.2.1=nm)&&((u.2.2.endLine==p.line)&&(af5 u.1&&(decide (as.length<20)&&(k1 u.1&&k2 as))))
noncomputable def bx9(k2 k3:Expr->Bool)(e y:Expr):Bool:=!star e&&(!star y&&(k2 e&&k3 y))
noncomputable def bH0(k1 k2 k3:Expr->Bool)(as:List Expr)(p:Pos)(u:Expr×Str×Pos):Bool:=decide (u.2.1=Str.ofString "get")&&((u.2.2.endLine==p.line)&&(af5 u.1&&(k1 u.1&&two as (bx9 k2 k3))))
mutual
noncomputable def i6(T:Tab):IE->Scope->List Str->Expr->Bool
 | .k v,sc,vs,x=>isC (C3 x) v||isG T sc v (t7 x)
 | .v i,sc,vs,x=>d7 (t7 x) λn=>decide (vs[i]?=some n) && !(n==("__debug__" : Str))
 | .bin op a b,sc,vs,x=>d7 (V3 x) (bE1 op (i6 T a sc vs) (i6 T b sc vs))
 | .cmp op a b,sc,vs,x=>d7 (L9 x) (bT9 op (i6 T a sc vs) (i6 T b sc vs))
 | .chain o p a b c,sc,vs,x=>d7 (L9 x) (bD9 o p (i6 T a sc vs) (i6 T b sc vs) (i6 T c sc vs))
 | .not a,sc,vs,x=>d7 (R4 x) λt=>decide (t.1=.Not)&&i6 T a sc vs t.2
 | .neg a,sc,vs,x=>d7 (R4 x) λt=>decide (t.1=.USub)&&i6 T a sc vs t.2
 | .and a b,sc,vs,x=>d7 (S6 x) λt=>decide (t.1=.And)&&ai1 t.2.1 λl r es=>i6 T a sc vs l&&i6 T b sc vs (Q4 .And t.2.2 r es)
 | .or a b,sc,vs,x=>d7 (S6 x) λt=>decide (t.1=.Or)&&ai1 t.2.1 λl r es=>i6 T a sc vs l&&i6 T b sc vs (Q4 .Or t.2.2 r es)
 | .tup es,sc,vs,x=>d7 (F3 x) (U6 (u7 T es sc vs))
 | .lst es,sc,vs,x=>d7 (O6 x) (U6 (u7 T es sc vs))
 | .itm a b,sc,vs,x=>d7 (H5 x) (bG3 (i6 T a sc vs) (i6 T b sc vs))
 | .itk a n,sc,vs,x=>d7 (H5 x) (bb0 n (i6 T a sc vs))
 | .pick es i,sc,vs,x=>d7 (H5 x) (bB8 (i6 T i sc vs) (u7 T es sc vs))
 | .slc a lo hi,sc,vs,x=>d7 (H5 x) (bH6 (i6 T a sc vs) (ad6 (i6 T lo sc vs) (am0 lo)) (ad6 (i6 T hi sc vs) (am0 hi)))
 | .call f es,sc,vs,x=>w0 x (aR8 T sc f (u7 T es sc vs))
 | .bi b es,sc,vs,x=>w0 x (biC T sc b.has (u7 T es sc vs))
 | .isi a t,sc,vs,x=>w0 x (biC T sc (C7 "isinstance") (ae1 (i6 T a sc vs) (aA2 (tyN T sc t.nm))))
 | .meth m o es,sc,vs,x=>d7 (F5 x) λt=>t.2.2.1.isEmpty&&d7 (Q8 t.1) (bH3 m.nm (i6 T o sc vs) (u7 T es sc vs) t.2.1 t.2.2.2)
 | .get D a,sc,vs,x=>d7 (F5 x) λt=>t.2.2.1.isEmpty&&d7 (Q8 t.1) λu=>decide (u.2.1=Str.ofString "get")&&((u.2.2.endLine==t.2.2.2.line)&&one t.2.1 λe=>!star e&&(i6 T a sc vs e&&d7 (t7 u.1) λd=>gl sc d&&ap6 D (T.lookup d)))
 | .lrng a,sc,vs,x=>w0 x (biC T sc (B1 "list") (W4 (aM2 T sc "range" (i6 T a sc vs))))
 | .sset a,sc,vs,x=>w0 x (biC T sc (C7 "sorted") (W4 (aM2 T sc "set" (i6 T a sc vs))))
 | .inl n a es,sc,vs,x=>d7 (L9 x) (cg7 (bif n then .NotIn else .In) (i6 T a sc vs) (u7 T es sc vs))
 | .comp js elt it cs,sc,vs,x=>d7 (ad1 x) λt=>one t.2.1 λc=>decide (c.is_async=0)&&d7 (t7 c.target) λy=>F9 ⟨sc,vs,0,true⟩ t.2.2 y js&&(i6 T elt (rl t.2.2 sc) (y::u3 t.2.2) t.1&&(R3 T it sc vs c.iter&&u7 T cs (rl t.2.2 sc) (y::u3 t.2.2) c.ifs))
 | .pw n v,sc,vs,x=>d7 (V3 x) λt=>decide (t.2.1=.Pow)&&(isC (C3 t.1) (.int 10)&&(isC (C3 t.2.2) (.int n)&&(decide (n<=12)&&decide (v=10 ^ n))))
 | .dic0 _,sc,vs,x=>d7 (Z3 x) λt=>t.1.isEmpty&&t.2.isEmpty
 | .dic1 _ a b,sc,vs,x=>d7 (Z3 x) λt=>one t.1 λko=>d7 ko λke=>one t.2 λve=>i6 T a sc vs ke&&i6 T b sc vs ve
 | .isx a y ys ns,sc,vs,x=>w0 x (biC T sc (C7 "isinstance") (ae1 (i6 T a sc vs) (aA2 (bn3 T sc y ys ns))))
 | .dg2 a k z,sc,vs,x=>d7 (F5 x) λt=>t.2.2.1.isEmpty&&d7 (Q8 t.1) (bH0 (i6 T a sc vs) (i6 T k sc vs) (i6 T z sc vs) t.2.1 t.2.2.2)
 | .isl a,sc,vs,x=>w0 x (biC T sc (C7 "isinstance") (ae1 (i6 T a sc vs) (bM3 T sc)))
 | .dik ks es,sc,vs,x=>d7 (Z3 x) λt=>J7 ks t.1&&(decide (t.1.length=t.2.length)&&(!t.1.isEmpty&&(decide (t.1.length<=15)&&(decide (ks.Nodup)&&u7 T es sc vs t.2))))
noncomputable def u7(T:Tab):IEs->Scope->List Str->List Expr->Bool
 | .nil,sc,vs,l=>l.isEmpty
 | .cons a es,sc,vs,l=>match l with
  | e::l=>!star e&&(i6 T a sc vs e&&u7 T es sc vs l)
  | []=>false
noncomputable def R3(T:Tab):II->Scope->List Str->Expr->Bool
 | .e a,sc,vs,x=>!aj8 x&&i6 T a sc vs x
 | .r1 a,sc,vs,x=>w0 x (biC T sc (B1 "range") (W4 (aw1 (i6 T a sc vs))))
end
structure SP where
 ret:Option (Option Expr):=none
 iff:Option (Expr×List Stmt×List Stmt):=none
 asg:Option (List Expr×Expr×Pos):=none
 expr:Option Expr:=none
 loop:Option (Expr×Expr×List Stmt×List Stmt):=none
 whl:Option (Expr×List Stmt×List Stmt):=none
 pass:Option Unit:=none
 brk:Option Unit:=none
 rais:Option (Option Expr×Option Expr):=none
 tri:Option (List Stmt×List ExceptHandler×List Stmt×List Stmt):=none
noncomputable def SP.z:SP:={}
noncomputable def sp(e:Stmt):SP:=Stmt.casesOn (motive_2:=λz_=>SP) e (λz_ z_ z_ z_ z_ z_ z_ z_ z_ z_=>.z) (λz_ z_ z_ z_ z_ z_ z_ z_ z_ z_=>.z) (λz_ z_ z_ z_ z_ z_ z_ z_ z_ z_ z_=>.z) (λa b=>{ret:=some a}) (λz_ z_=>.z) (λa b c=>{asg:=some (a,b,c)}) (λz_ z_ z_ z_ z_ z_ z_=>.z) (λz_ z_ z_ z_=>.z) (λz_ z_ z_ z_ z_=>.z) (λa b c d e=>{loop:=some (a,b,c,d)}) (λz_ z_ z_ z_ z_=>.z) (λa b c d=>{whl:=some (a,b,c)}) (λa b c d=>{iff:=some (a,b,c)}) (λz_ z_ z_=>.z) (λz_ z_ z_=>.z) (λz_ z_ z_=>.z) (λa b z_=>{rais:=some (a,b)}) (λa b c d z_=>{tri:=some (a,b,c,d)}) (λz_ z_ z_ z_ z_=>.z) (λz_ z_ z_=>.z) (λz_ z_=>.z) (λz_ z_ z_ z_=>.z) (λz_ z_=>.z) (λz_ z_=>.z) (λa b=>{expr:=some a}) (λa=>{pass:=some ()}) (λa=>{brk:=some ()}) (λz_=>.z)
structure SOK(p:SP)(x:Stmt):Prop where
 ret:∀ t,p.ret=some t->∃ p,x=.Return t p
 iff:∀ t,p.iff=some t->∃ p,x=.If t.1 t.2.1 t.2.2 p
 asg:∀ t,p.asg=some t->x=.Assign t.1 t.2.1 t.2.2
 expr:∀ t,p.expr=some t->∃ p,x=.Expr t p
 loop:∀ t,p.loop=some t->∃ p,x=.For t.1 t.2.1 t.2.2.1 t.2.2.2 p
 whl:∀ t,p.whl=some t->∃ p,x=.While t.1 t.2.1 t.2.2 p
 pass:∀ t,p.pass=some t->∃ p,x=.Pass p
 brk:∀ t,p.brk=some t->∃ p,x=.Break p
 rais:∀ t,p.rais=some t->∃ p,x=.Raise t.1 t.2 p
 tri:∀ t,p.tri=some t->∃ p,x=.Try t.1 t.2.1 t.2.2.1 t.2.2.2 p
theorem m6{x:Stmt}:SOK .z x:=⟨λz_=>no,λz_=>no,λz_=>no,λz_=>no,λz_=>no,λz_=>no,λz_=>no,λz_=>no,λz_=>no,λz_=>no⟩
theorem F2(e:Stmt):SOK (sp e) e:=Stmt.casesOn (motive_2:=λe=>SOK (sp e) e) e (λz_ z_ z_ z_ z_ z_ z_ z_ z_ z_=>m6) (λz_ z_ z_ z_ z_ z_ z_ z_ z_ z_=>m6) (λz_ z_ z_ z_ z_ z_ z_ z_ z_ z_ z_=>m6) (λz_ z_=>{(m6:SOK .z _) with ret:=λt h=>by obtain rfl:=Option.some.inj h;exact⟨_,rfl⟩}) (λz_ z_=>m6) (λz_ z_ z_=>{(m6:SOK .z _) with asg:=λt h=>by obtain rfl:=Option.some.inj h;exact rfl}) (λz_ z_ z_ z_ z_ z_ z_=>m6) (λz_ z_ z_ z_=>m6) (λz_ z_ z_ z_ z_=>m6) (λz_ z_ z_ z_ z_=>{(m6:SOK .z _) with loop:=λt h=>by obtain rfl:=Option.some.inj h;exact⟨_,rfl⟩}) (λz_ z_ z_ z_ z_=>m6) (λz_ z_ z_ z_=>{(m6:SOK .z _) with whl:=λt h=>by obtain rfl:=Option.some.inj h;exact⟨_,rfl⟩}) (λz_ z_ z_ z_=>{(m6:SOK .z _) with iff:=λt h=>by obtain rfl:=Option.some.inj h;exact⟨_,rfl⟩}) (λz_ z_ z_=>m6) (λz_ z_ z_=>m6) (λz_ z_ z_=>m6) (λz_ z_ z_=>{(m6:SOK .z _) with rais:=λt h=>by obtain rfl:=Option.some.inj h;exact⟨_,rfl⟩}) (λz_ z_ z_ z_ z_=>{(m6:SOK .z _) with tri:=λt h=>by obtain rfl:=Option.some.inj h;exact⟨_,rfl⟩}) (λz_ z_ z_ z_ z_=>m6) (λz_ z_ z_=>m6) (λz_ z_=>m6) (λz_ z_ z_ z_=>m6) (λz_ z_=>m6) (λz_ z_=>m6) (λz_ z_=>{(m6:SOK .z _) with expr:=λt h=>by obtain rfl:=Option.some.inj h;exact⟨_,rfl⟩}) (λz_=>{(m6:SOK .z _) with pass:=λt h=>by obtain rfl:=Option.some.inj h;exact⟨_,rfl⟩}) (λz_=>{(m6:SOK .z _) with brk:=λt h=>by obtain rfl:=Option.some.inj h;exact⟨_,rfl⟩}) (λz_=>m6)
noncomputable def ae2(e:Stmt):Option (Option Expr):=(sp e).ret
theorem cf0{x:Stmt}{t:(Option Expr)}(h:ae2 x=some t):∃ p,x=.Return t p:=(F2 x).ret t h
noncomputable def ad8(e:Stmt):Option (Expr×List Stmt×List Stmt):=(sp e).iff
theorem aQ6{x:Stmt}{t:(Expr×List Stmt×List Stmt)}(h:ad8 x=some t):∃ p,x=.If t.1 t.2.1 t.2.2 p:=(F2 x).iff t h
noncomputable def M8(e:Stmt):Option (List Expr×Expr×Pos):=(sp e).asg
theorem aP5{x:Stmt}{t:(List Expr×Expr×Pos)}(h:M8 x=some t):x=.Assign t.1 t.2.1 t.2.2:=(F2 x).asg t h
noncomputable def ac5(e:Stmt):Option Expr:=(sp e).expr
theorem bt4{x:Stmt}{t:Expr}(h:ac5 x=some t):∃ p,x=.Expr t p:=(F2 x).expr t h
noncomputable def Q3(e:Stmt):Option (Expr×Expr×List Stmt×List Stmt):=(sp e).loop
theorem bZ5{x:Stmt}{t:(Expr×Expr×List Stmt×List Stmt)}(h:Q3 x=some t):∃ p,x=.For t.1 t.2.1 t.2.2.1 t.2.2.2 p:=(F2 x).loop t h
noncomputable def al9(e:Stmt):Option (Expr×List Stmt×List Stmt):=(sp e).whl
theorem bG5{x:Stmt}{t:(Expr×List Stmt×List Stmt)}(h:al9 x=some t):∃ p,x=.While t.1 t.2.1 t.2.2 p:=(F2 x).whl t h
noncomputable def aA0(e:Stmt):Bool:=(sp e).brk.isSome
theorem bM6{x:Stmt}(h:aA0 x=true):∃ p,x=.Break p:=(F2 x).brk () (bA.mp h).choose_spec
theorem Q6{x:Expr}{F:_->Bool}{P:Expr->Prop}(h:d7 (t7 x) F=true)(k:∀ n p,F n=true->P (.Name n p)):P x:=by
 refine a9 (i7 h) λn0 e1 hf=>?_
 refine c6 (D1 e1) λp0 q1_=>?_;subst q1_
 exact k _ _ hf
theorem ax2{x:Expr}{F:_->Bool}{P:Expr->Prop}(h:d7 (V3 x) F=true)(k:∀ l o r p,F (l,o,r)=true->P (.BinOp l o r p)):P x:=by
 obtain⟨⟨l0,o0,r0⟩,e1,hf⟩:=i7 h;refine c6 (ce5 e1) λp0 q1_=>?_;subst q1_
 exact k _ _ _ _ hf
theorem ac4{x:Expr}{F:_->Bool}{P:Expr->Prop}(h:d7 (R4 x) F=true)(k:∀ o r p,F (o,r)=true->P (.UnaryOp o r p)):P x:=by
 obtain⟨⟨o0,r0⟩,e1,hf⟩:=i7 h;refine c6 (bF3 e1) λp0 q1_=>?_;subst q1_
 exact k _ _ _ hf
theorem Z1{x:Expr}{F:_->Bool}{P:Expr->Prop}(h:d7 (S6 x) F=true)(k:∀ o l p,F (o,l,p)=true->P (.BoolOp o l p)):P x:=by
 obtain⟨⟨o0,l0,p0⟩,e1,hf⟩:=i7 h;obtain rfl:=bQ2 e1;exact k _ _ _ hf
theorem af9{x:Expr}{F:_->Bool}{P:Expr->Prop}(h:d7 (L9 x) F=true)(k:∀ l o r p,F (l,o,r)=true->P (.Compare l o r p)):P x:=by
 obtain⟨⟨l0,o0,r0⟩,e1,hf⟩:=i7 h;refine c6 (aj3 e1) λp0 q1_=>?_;subst q1_
 exact k _ _ _ _ hf
theorem af4{x:Expr}{F:_->Bool}{P:Expr->Prop}(h:d7 (F3 x) F=true)(k:∀ l k p,F l=true->P (.Tuple l k p)):P x:=by
 refine a9 (i7 h) λl0 e1 hf=>?_
 refine p9 (S8 e1) λk0 p0 q1_=>?_;subst q1_
 exact k _ _ _ hf
theorem bU6{x:Expr}{F:_->Bool}{P:Expr->Prop}(h:d7 (O6 x) F=true)(k:∀ l p,F l=true->P (.List l p)):P x:=by
 refine a9 (i7 h) λl0 e1 hf=>?_
 refine c6 (ab9 e1) λp0 q1_=>?_;subst q1_
 exact k _ _ hf
theorem O9{x:Expr}{F:_->Bool}{P:Expr->Prop}(h:d7 (H5 x) F=true)(k:∀ a b p,F (a,b)=true->P (.Subscript a b p)):P x:=by
 obtain⟨⟨a0,b0⟩,e1,hf⟩:=i7 h;refine c6 (aH0 e1) λp0 q1_=>?_;subst q1_
 exact k _ _ _ hf
theorem ac0{x:Expr}{F:_->Bool}{P:Expr->Prop}(h:d7 (F5 x) F=true)(k:∀ f as ks p,F (f,as,ks,p)=true->P (.Call f as ks p)):P x:=by
 obtain⟨⟨f0,as0,ks0,p0⟩,e1,hf⟩:=i7 h;obtain rfl:=as7 e1;exact k _ _ _ _ hf
theorem ag6{x:Expr}{F:_->Bool}{P:Expr->Prop}(h:d7 (Q8 x) F=true)(k:∀ o n p,F (o,n,p)=true->P (.Attribute o n p)):P x:=by
 obtain⟨⟨o0,n0,p0⟩,e1,hf⟩:=i7 h;obtain rfl:=bs2 e1;exact k _ _ _ hf
theorem an6{x:Expr}{F:_->Bool}{P:Expr->Prop}(h:d7 (ad1 x) F=true)(k:∀ e l s p,F (e,l,s)=true->P (.ListComp e l s p)):P x:=by
 obtain⟨⟨e0,l0,s0⟩,e1,hf⟩:=i7 h;refine c6 (bY7 e1) λp0 q1_=>?_;subst q1_
 exact k _ _ _ _ hf
theorem bj3{x:Stmt}{F:_->Bool}{P:Stmt->Prop}(h:d7 (ad8 x) F=true)(k:∀ t a b p,F (t,a,b)=true->P (.If t a b p)):P x:=by
 obtain⟨⟨t0,a0,b0⟩,e1,hf⟩:=i7 h;refine c6 (aQ6 e1) λp0 q1_=>?_;subst q1_
 exact k _ _ _ _ hf
theorem P0{x:Stmt}{F:_->Bool}{P:Stmt->Prop}(h:d7 (M8 x) F=true)(k:∀ t e p,F (t,e,p)=true->P (.Assign t e p)):P x:=by
 obtain⟨⟨t0,e0,p0⟩,e1,hf⟩:=i7 h;obtain rfl:=aP5 e1;exact k _ _ _ hf
theorem bX4{x:Stmt}{F:_->Bool}{P:Stmt->Prop}(h:d7 (ae2 x) F=true)(k:∀ t p,F t=true->P (.Return t p)):P x:=by
 refine a9 (i7 h) λt0 e1 hf=>?_
 refine c6 (cf0 e1) λp0 q1_=>?_;subst q1_
 exact k _ _ hf
theorem ca0{x:Stmt}{F:_->Bool}{P:Stmt->Prop}(h:d7 (ac5 x) F=true)(k:∀ e p,F e=true->P (.Expr e p)):P x:=by
 refine a9 (i7 h) λe0 e1 hf=>?_
 refine c6 (bt4 e1) λp0 q1_=>?_;subst q1_
 exact k _ _ hf
theorem aa9{x:Stmt}{F:_->Bool}{P:Stmt->Prop}(h:d7 (Q3 x) F=true)(k:∀ t i b o p,F (t,i,b,o)=true->P (.For t i b o p)):P x:=by
 obtain⟨⟨t0,i0,b0,o0⟩,e1,hf⟩:=i7 h;refine c6 (bZ5 e1) λp0 q1_=>?_;subst q1_
 exact k _ _ _ _ _ hf
theorem bB2{x:Stmt}{F:_->Bool}{P:Stmt->Prop}(h:d7 (al9 x) F=true)(k:∀ t b o p,F (t,b,o)=true->P (.While t b o p)):P x:=by
 obtain⟨⟨t0,b0,o0⟩,e1,hf⟩:=i7 h;refine c6 (bG5 e1) λp0 q1_=>?_;subst q1_
 exact k _ _ _ _ hf
theorem aU5{x:Stmt}{F:_->Bool}{P:Stmt->Prop}(h:d7 (sp x).rais F=true)(k:∀ a b p,F (a,b)=true->P (.Raise a b p)):P x:=by
 obtain⟨⟨a0,b0⟩,e1,hf⟩:=i7 h;refine c6 ((F2 x).rais _ e1) λp0 q1_=>?_;subst q1_
 exact k _ _ _ hf
theorem bK4{x:Stmt}{F:_->Bool}{P:Stmt->Prop}(h:d7 (sp x).tri F=true)(k:∀ a b c d p,F (a,b,c,d)=true->P (.Try a b c d p)):P x:=by
 obtain⟨⟨a0,b0,c0,d0⟩,e1,hf⟩:=i7 h;refine c6 ((F2 x).tri _ e1) λp0 q1_=>?_;subst q1_
 exact k _ _ _ _ _ hf
noncomputable def Y8(h:ExceptHandler):Option Expr×Option Str×List Stmt:=match h with
 | .ExceptHandler t n b _=>(t,n,b)
noncomputable def hNm(sc:Scope)(vs:List Str):Option Nat->Option Str->Bool
 | none,none=>true
 | some i,some x=>decide (vs[i]?=some x)&&decide (sc.names.lookup x=some .local)
 | _,_=>false
noncomputable def M9(vs:List Str)(i:Nat)(x:Expr):Bool:=d7 (t7 x) λn=>decide (vs[i]?=some n)
noncomputable def K2(vs:List Str):List Nat->List Expr->Bool
 | [],l=>l.isEmpty
 | i::is,l=>match l with
  | x::l=>M9 vs i x&&K2 vs is l
  | []=>false
noncomputable def ao8:IE->Bool
 | .comp _ _ _ _=>true
 | _=>false
mutual
noncomputable def aE7(T:Tab)(sc:Scope)(vs:List Str):IS->Stmt->Bool
 | .ret e,x=>d7 (ae2 x) λt=>d7 t λy=>i6 T e sc vs y
 | .iff t a b,x=>d7 (ad8 x) λu=>i6 T t sc vs u.1&&(A0 T sc vs a u.2.1&&A0 T sc vs b u.2.2)
 | .asg i e,x=>d7 (M8 x) λt=>one t.1 λn=>M9 vs i n&&((ao8 e || !odd t.2.1)&&i6 T e sc vs t.2.1)
 | .seti o i e,x=>d7 (M8 x) λt=>one t.1 λn=>i6 T e sc vs t.2.1&&d7 (H5 n) λu=>i6 T o sc vs u.1&&i6 T i sc vs u.2
 | .swap i j a b,x=>d7 (M8 x) λt=>one t.1 λn=>d7 (F3 n) λl=>two l λm n=>M9 vs i m&&(M9 vs j n&&((n.pos.line==m.pos.line)&&(decide (sc.names.lookup ((t7 m).getD default)=some .local)&&(decide (sc.names.lookup ((t7 n).getD default)=some .local)&&(!([(t7 m).getD default,(t7 n).getD default].eraseDups.length != 2) &&
   d7 (F3 t.2.1) λl=>two l λu w=>!([u,w].any ak3)&&(!([u,w].all (foldedForSure 8))&&(!([u,w].all (constantsAlone 8))&&(!star u&&(!star w&&(i6 T a sc vs u&&i6 T b sc vs w))))))))))
 | .unp is i,x=>d7 (M8 x) λt=>one t.1 λn=>d7 (F3 n) λl=>K2 vs is l&&d7 (t7 t.2.1) λm=>decide (vs[i]?=some m) && !(m==("__debug__" : Str))
 | .expr e,x=>d7 (ac5 x) λy=>!odd y&&i6 T e sc vs y
 | .brk,x=>aA0 x
 | .loop i it body,x=>d7 (Q3 x) λt=>t.2.2.2.isEmpty&&(M9 vs i t.1&&(R3 T it sc vs t.2.1&&A0 T sc vs body t.2.2.1))
 | .loops is it body,x=>d7 (Q3 x) λt=>t.2.2.2.isEmpty&&(R3 T it sc vs t.2.1&&(A0 T sc vs body t.2.2.1&&d7 (F3 t.1) λl=>K2 vs is l))
 | .loopz is es body,x=>d7 (Q3 x) λt=>t.2.2.2.isEmpty&&(A0 T sc vs body t.2.2.1&&(d7 (F3 t.1) (λl=>K2 vs is l)&&w0 t.2.1 λn as=>gl sc n&&(B1 "zip" (T.lookup n)&&two as λx y=>u7 T es sc vs [x,y])))
 | .whil t body,x=>d7 (al9 x) λu=>u.2.2.isEmpty&&(i6 T t sc vs u.1&&A0 T sc vs body u.2.1)
 | .rais y es,x=>d7 (sp x).rais λu=>u.2.isNone&&d7 u.1 λc=>w0 c λn as=>decide (n=y)&&(gl sc n&&(W7 (T.lookup n)&&(decide (as.length<20)&&u7 T es sc vs as)))
 | .tri b hs,x=>d7 (sp x).tri λu=>u.2.2.1.isEmpty&&(u.2.2.2.isEmpty&&(!u.2.1.isEmpty&&(A0 T sc vs b u.1&&ac8 T sc vs hs u.2.1)))
noncomputable def A0(T:Tab)(sc:Scope)(vs:List Str):ISs->List Stmt->Bool
 | .nil,l=>l.isEmpty
 | .cons s ss,l=>match l with
  | x::l=>aE7 T sc vs s x&&A0 T sc vs ss l
  | []=>false
 | .stop ss,l=>A0 T sc vs ss l
 | .drop ss,l=>A0 T sc vs ss l
 | .any,_=>true
noncomputable def ac8(T:Tab)(sc:Scope)(vs:List Str):IHs->List ExceptHandler->Bool
 | .nil,l=>l.isEmpty
 | .cons y ys ns n suite rest,l=>match l with
  | h::l=>d7 (Y8 h).1 (λe=>d7 (t7 e) λm=>decide (m=y)&&(gl sc m&&(W7 (T.lookup m)&&U2 T m ys ns)))&&(hNm sc vs n (Y8 h).2.1&&(!(Y8 h).2.2.isEmpty&&(A0 T sc vs suite (Y8 h).2.2&&ac8 T sc vs rest l)))
  | []=>false
end
noncomputable def au3(T:Tab)(f:DefRec)(vs:List Str)(ir:ISs):Bool:=ae7 f.params f.scope vs&&A0 T f.scope vs ir f.body
noncomputable def Bnd(f:Str)(df:DefRec)(n:Nat):Prop:=∀ pm cd doc us,us.length=n->bindArgs (bH f df.params df.body df.scope pm cd doc) ⟨us,[]⟩=pure ((df.params.args.map (·.arg)).zip us)
noncomputable def fnT(p:Program)(ks:List Nat):Tab:=ks.map λk=>((e9 p k).name,.fn k)
theorem TabOK.fns{g:G}{ks:List Nat}{T:Tab}(h:∀ k∈ks,ag9 g (e9 g.prog k).name (.fn k))(r:TabOK g T):TabOK g (fnT g.prog ks++T):=by
 induction ks with
 | nil=>exact r
 | cons k ks ih=>exact .cons (h k (.head _)) (ih λj hj=>h j (.tail _ hj))
noncomputable def itV:Item->Value
 | .bi id=>.builtin id
 | .ty id=>.type id
 | _=>.none
noncomputable def isB:Item->Bool
 | .bi _=>true
 | .ty _=>true
 | _=>false
theorem TabOK.bis{g:G}{T:Tab}(h:∀ p∈T,Bi g p.1 (itV p.2))(k:∀ p∈T,isB p.2=true):TabOK g T:=by
 induction T with
 | nil=>exact .nil
 | cons p T ih=>
  have r:=ih (λq hq=>h q (.tail _ hq)) λq hq=>k q (.tail _ hq)
  have h1:=h p (.head _);have k1:=k p (.head _);obtain⟨x,it⟩:=p;cases it with
  | bi id=>exact .cons h1 r
  | ty id=>exact .cons h1 r
  | _=>cases k1
section
variable{g:G}{F:Blk}{sc:Scope}{vs:List Str}{d:Nat}{q:Bool}{Z:Lo}{Y:Hp}{Q:VP}{QB:BP}{X:XP}
theorem u2{n:Nat}(h:n<=10000):n<=sizeLine:=al h (by decide)
theorem bo8{x y:V}(h:au0 x y Y Q):Op2 g F (binaryOp .Add) x y Z Y Q X:=by
 cases x with
 | int a=>cases y with
  | int b=>exact aZ8 h
  | _=>exact h.elim
 | str a=>cases y with
  | str b=>obtain⟨p,k⟩:=h;exact bg3 p k
  | _=>exact h.elim
 | tup a=>cases y with
  | tup b=>obtain⟨p,k⟩:=h;exact bR5 (u2 p) k
  | _=>exact h.elim
 | ref a=>cases y with
  | ref b=>obtain⟨l,h1,k,h2,p,⟨r⟩⟩:=h;exact bm2 h1 h2 (u2 p) r
  | _=>exact h.elim
 | _=>exact h.elim
theorem aW4{x y:V}(h:aG6 x y Y Q):Op2 g F (binaryOp .Mult) x y Z Y Q X:=by
 cases x with
 | int a=>cases y with
  | int b=>
   obtain⟨p,k⟩:=h;rcases p with p | p
   ·exact aT3 p.1 p.2 k
   ·exact bL3 p.1 p.2 k
  | _=>exact h.elim
 | ref a=>cases y with
  | int b=>obtain⟨l,h1,p,⟨r⟩⟩:=h;exact bf5 h1 p.1 p.2.1 p.2.2 r
  | _=>exact h.elim
 | _=>exact h.elim
theorem E4{P:Int->Int->Prop}{x y:V}(h:D2 P x y):∃ a b,x=.int a/\y=.int b/\P a b:=by
 cases x with
 | int a=>cases y with
  | int b=>exact⟨a,b,rfl,rfl,h⟩
  | _=>exact h.elim
 | _=>exact h.elim
theorem R8{P:Int->Prop}{x:V}(h:N3 P x):∃ a,x=.int a/\P a:=by
 cases x with
 | int a=>exact⟨a,rfl,h⟩
 | _=>exact h.elim
theorem C5{P:Addr->Prop}{x:V}(h:z9 P x):∃ a,x=.ref a/\P a:=by
 cases x with
 | ref a=>exact⟨a,rfl,h⟩
 | _=>exact h.elim
theorem V0{P:Str->Prop}{x:V}(h:S0 P x):∃ a,x=.str a/\P a:=by
 cases x with
 | str a=>exact⟨a,rfl,h⟩
 | _=>exact h.elim
theorem be3{P:Bool->Prop}{x:V}(h:aJ5 P x):∃ a,x=.bool a/\P a:=by
 cases x with
 | bool a=>exact⟨a,rfl,h⟩
 | _=>exact h.elim
theorem aj7{P:List V->Prop}{x:V}(h:S9 P x):∃ a,x=.tup a/\P a:=by
 cases x with
 | tup a=>exact⟨a,rfl,h⟩
 | _=>exact h.elim
theorem D9{P:V->Prop}{x:List V}(h:un P x):∃ a,x=[a]/\P a:=by
 cases x with
 | nil=>exact h.elim
 | cons a l=>cases l with
  | nil=>exact⟨a,rfl,h⟩
  | cons _ _=>exact h.elim
theorem av5{P:V->V->Prop}{x:List V}(h:duo P x):∃ a b,x=[a,b]/\P a b:=by
 cases x with
 | nil=>exact h.elim
 | cons a l=>cases l with
  | nil=>exact h.elim
  | cons b l=>cases l with
   | nil=>exact⟨a,b,rfl,h⟩
   | cons _ _=>exact h.elim
theorem ax1{P:Option Int->Prop}{x:V}(h:ag1 x P):∃ k,OptInt x k/\P k:=by
 cases x with
 | none=>exact⟨_,.none,h⟩
 | int i=>exact⟨_,.int i,h⟩
 | _=>exact h.elim
theorem aB6{l:List V}:∀ {P:List Str->Prop},Z6 l P->∃ ss,l=ss.map .str/\P ss:=by
 induction l with
 | nil=>intro P h;exact⟨[],rfl,h⟩
 | cons x l ih=>
  intro P h;cases x with
  | str x=>
   refine a9 (ih h) λss e k=>?_
   exact⟨x::ss,by rw[e];rfl,k⟩
  | _=>exact h.elim
theorem aM4{l:Lo}:∀ {i:Nat} {P:V->Prop},vAt l i P->∃ v,l[i]?=some (some v)/\P v:=by
 induction l with
 | nil=>intro i P h;cases i<;>exact h.elim
 | cons x l ih=>
  intro i P h;cases i with
  | zero=>cases x with
   | none=>exact h.elim
   | some v=>exact⟨v,rfl,h⟩
  | succ i=>exact ih h
theorem al5{l:List V}:∀ {i:Nat} {P:V->Prop},lAt l i P->∃ v,l[i]?=some v/\P v:=by
 induction l with
 | nil=>intro i P h;cases i<;>exact h.elim
 | cons x l ih=>
  intro i P h;cases i with
  | zero=>exact⟨x,rfl,h⟩
  | succ i=>exact ih h
theorem bh1{op:Operator}{x y:V}(h:ay4 op x y Y Q):Op2 g F (binaryOp op) x y Z Y Q X:=by
 cases op with
 | Add=>exact bo8 h
 | Mult=>exact aW4 h
 | Sub=>refine g7 (E4 h) λa b q1_ q2_ k=>?_;subst q1_;subst q2_;exact aR7 k
 | Mod=>obtain⟨a,b,rfl,rfl,p,k⟩:=E4 h;exact ca6 p k
 | FloorDiv=>obtain⟨a,b,rfl,rfl,p,k⟩:=E4 h;exact bu3 p.1 p.2 k
 | _=>exact h.elim
theorem aY6{n:Bool}{x:V}{a:Addr}(h:Look Y a λl=>InL n F.d l x Y Q):Op2 g F (compareOp (bif n then .NotIn else .In)) x (.ref a) Z Y Q X:=by
 obtain⟨l,e,k⟩:=h;cases k with
 | ofStrs ss y hx hl k=>
  subst hx hl;cases n with
  | true=>exact aK1 e (by rw[bU] at k;exact k)
  | false=>exact aI5 e (by rw[cb] at k;exact k)
 | mk hl hx hu k=>
  cases n with
  | true=>exact bg0 e hl hx hu (by rw[bU] at k;exact k)
  | false=>exact bQ9 e hl hx hu (by rw[cb] at k;exact k)
theorem aC1{K:Type}[DecidableEq K](D:Kd g K){n:Bool}{k:K}{a:Addr}{l:List (K×V)}(e:Y a=some (D.ob l))(h:Q (.bool (n ^^ (j9 l k).isSome)) Y):Op2 g F (compareOp (bif n then .NotIn else .In)) (D.key k) (.ref a) Z Y Q X:=by
 cases n with
 | true=>exact bv8 D e (by rw[bU] at h;exact h)
 | false=>exact bm8 D e (by rw[cb] at h;exact h)
theorem az6{n:Bool}{x y:V}(h:wIn n F.d Y Q x y):Op2 g F (compareOp (bif n then .NotIn else .In)) x y Z Y Q X:=by
 cases y with
 | ref a=>cases h with
  | l h=>exact aY6 h
  | i k e h=>subst e;obtain⟨l,e,h⟩:=h;exact aC1 (kdI g) e h
  | s k e h=>subst e;obtain⟨l,e,h⟩:=h;exact aC1 (kdS g) e h
 | str y=>cases x with
  | str x=>cases n with
   | true=>exact bs9 h
   | false=>exact bE2 h
  | _=>exact h.elim
 | tup l=>cases x with
  | str x=>cases n with
   | true=>exact h.elim
   | false=>refine a9 (aB6 h) λss e k=>?_;exact bu5 e k
  | _=>exact h.elim
 | _=>exact h.elim
theorem bw3{l k:List V}(h:EqT false F.d l k Y Q):Op2 g F (compareOp .Eq) (.tup l) (.tup k) Z Y Q X:=by
 cases h with
 | nil hk hn hd h=>subst hk;exact bx0 hd h
 | mk hl hk hu h=>exact ah3 hl hk (by show min (PyData.depthAll (l4 l)+1) (PyData.depthAll (l4 k)+1)<=_;rw[cN];exact hu) (by rw[cb] at h;exact h)
theorem aU7{l k:List V}(h:EqT true F.d l k Y Q):Op2 g F (compareOp .NotEq) (.tup l) (.tup k) Z Y Q X:=by
 cases h with
 | nil hk hn hd h=>cases hn
 | mk hl hk hu h=>exact ab4 hl hk (by show min (PyData.depthAll (l4 l)+1) (PyData.depthAll (l4 k)+1)<=_;rw[cN];exact hu) (by rw[bU] at h;exact h)
theorem aQ1{a b:Addr}{l k:List V}(h1:Y a=some (.lst l))(h2:Y b=some (.lst k))(h:EqL false F.d l k Y Q):Op2 g F (compareOp .Eq) (.ref a) (.ref b) Z Y Q X:=by
 cases h with
 | mk a b c r=>exact bl2 h1 h2 a b c (by rw[cb] at r;exact r)
theorem cd3{a b:Addr}{l k:List V}(h1:Y a=some (.lst l))(h2:Y b=some (.lst k))(h:EqL true F.d l k Y Q):Op2 g F (compareOp .NotEq) (.ref a) (.ref b) Z Y Q X:=by
 cases h with
 | mk a b c r=>exact bN4 h1 h2 a b c (by rw[bU] at r;exact r)
theorem br0{x y:V}(h:wEq F.d Y Q x y):Op2 g F (compareOp .Eq) x y Z Y Q X:=by
 cases x with
 | int a=>cases y with
  | int b=>exact bS6 h
  | _=>exact h.elim
 | str a=>cases y with
  | str b=>exact eq_str h
  | _=>exact h.elim
 | bool a=>cases y with
  | bool b=>exact bp5 h
  | _=>exact h.elim
 | none=>cases y with
  | int b=>exact aQ4 h
  | _=>exact h.elim
 | tup a=>cases y with
  | tup b=>exact bw3 h
  | _=>exact h.elim
 | ref a=>cases y with
  | ref b=>obtain⟨l,h1,k,h2,r⟩:=h;exact aQ1 h1 h2 r
  | _=>exact h.elim
theorem bb9{x y:V}(h:wNe F.d Y Q x y):Op2 g F (compareOp .NotEq) x y Z Y Q X:=by
 cases x with
 | int a=>cases y with
  | int b=>exact bK9 h
  | _=>exact h.elim
 | str a=>cases y with
  | str b=>exact ne_str h
  | _=>exact h.elim
 | bool a=>cases y with
  | bool b=>exact cg9 h
  | _=>exact h.elim
 | none=>cases y with
  | int b=>exact bH2 h
  | _=>exact h.elim
 | tup a=>cases y with
  | tup b=>exact aU7 h
  | _=>exact h.elim
 | ref a=>cases y with
  | ref b=>obtain⟨l,h1,k,h2,r⟩:=h;exact cd3 h1 h2 r
  | _=>exact h.elim
theorem O4{op:CmpOp}{x y:V}(h:L5 F.d op x y Y Q):Op2 g F (compareOp op) x y Z Y Q X:=by
 cases op with
 | Lt=>refine g7 (E4 h) λa b q1_ q2_ k=>?_;subst q1_;subst q2_;exact bV4 k
 | LtE=>refine g7 (E4 h) λa b q1_ q2_ k=>?_;subst q1_;subst q2_;exact bU8 k
 | Gt=>refine g7 (E4 h) λa b q1_ q2_ k=>?_;subst q1_;subst q2_;exact aZ3 k
 | GtE=>refine g7 (E4 h) λa b q1_ q2_ k=>?_;subst q1_;subst q2_;exact bt3 k
 | Eq=>exact br0 h
 | NotEq=>exact bb9 h
 | In=>exact az6 (n:=false) h
 | NotIn=>exact az6 (n:=true) h
 | _=>exact h.elim
theorem H3{x:V}(h:D4 x Y QB):Tru g F x Z Y QB X:=by
 cases x with
 | bool b=>exact al0 h
 | int b=>exact bJ6 h
 | _=>exact h.elim
theorem bL9{x y:V}(h:aj9 g x y Y Q):Itm g F x y Z Y Q X:=by
 cases x with
 | tup l=>cases y with
  | int k=>obtain⟨h0,h1,hz,r⟩:=h;exact aR5 h0 h1 hz r
  | _=>exact h.elim
 | str x=>cases y with
  | int k=>obtain⟨h0,h1,hz,r⟩:=h;exact bf7 h0 h1 hz r
  | _=>exact h.elim
 | ref a=>cases y with
  | int k=>
   cases h with
   | d h=>obtain⟨l,e,v,hv,r⟩:=h;exact aN2 (kdI g) e hv r
   | l h=>
    cases h with
    | mk l e r=>obtain⟨h0,h1,hz,r⟩:=r;exact aS9 e h0 h1 hz r
    | scr ns e r=>
     obtain⟨h0,h1,hz,r⟩:=r;rw[aa] at h1;have hl:k.toNat<ns.length:=ai9 h0 h1;exact ax7 e h0 hz (ae hl) (r _ (by rw[aq,ae hl];rfl))
  | str k=>obtain⟨l,e,v,hv,r⟩:=h;exact aN2 (kdS g) e hv r
  | _=>exact h.elim
 | _=>exact h.elim
theorem aO8{n:Nat}{x:V}(hn:n<=10000)(h:aE9 g n x Y Q):Itm g F x (.int n) Z Y Q X:=by
 have hz:(n:Int)<2 ^ 63:=by lia
 cases x with
 | tup l=>
  refine a9 (al5 h) λv e p=>?_
  have hl:=(aj.mp e).1;exact am9 (by lia) hz (ag8 (aJ n) (by lia)) e p
 | ref a=>
  cases h with
  | mk l e r=>
   refine a9 (al5 r) λv e' p=>?_
   exact ad7 e (aJ n) hz e' p
  | scr ns e r=>
   refine a9 (al5 r) λv e' p=>?_
   rw[aq] at e';refine a9 (aA.mp e') λm e1 e2=>?_
   subst e2;exact ax7 e (aJ n) hz e1 p
 | _=>exact h.elim
theorem aR0{lo hi:Option Int}{x:V}(h:aD7 lo hi x Y Q):Slc g F x lo hi Z Y Q X:=by
 cases x with
 | tup l=>obtain⟨p,k⟩:=h;exact bY1 (u2 p) k
 | str l=>obtain⟨p,k⟩:=h;exact aR9 p k
 | ref a=>obtain⟨l,e,p,⟨k⟩⟩:=h;exact aR3 e (u2 p) k
 | _=>exact h.elim
theorem aW1{t:TY}{x:V}(h:aN3 t x Y Q):Op1 g F (λy=>call (.builtin "isinstance") [y,.type t.nm]) x Z Y Q X:=(λA env s y I r=>by
 cases x with
 | none=>
  obtain rfl:=r.ofNone;cases t
  ·exact IsiPair.NoneType_int (m7 I h)
  ·exact IsiPair.NoneType_bool (m7 I h)
  ·exact IsiPair.NoneType_str (m7 I h)
  ·exact IsiPair.NoneType_tuple (m7 I h)
  ·exact IsiPair.NoneType_list (m7 I h)
 | bool c=>
  obtain rfl:=r.ofBool;cases t
  ·first | exact IsiPair.bool_int (n6 I h) | exact IsiPair.bool_int (m7 I h)
  ·exact IsiPair.bool_bool (n6 I h)
  ·exact IsiPair.bool_str (m7 I h)
  ·exact IsiPair.bool_tuple (m7 I h)
  ·exact IsiPair.bool_list (m7 I h)
 | int i=>
  refine c6 r.ofInt λu q1_=>?_;subst q1_
  cases t
  ·exact IsiPair.int_int (n6 I h)
  ·exact IsiPair.int_bool (m7 I h)
  ·exact IsiPair.int_str (m7 I h)
  ·exact IsiPair.int_tuple (m7 I h)
  ·exact IsiPair.int_list (m7 I h)
 | str i=>
  refine c6 r.ofStr λu q1_=>?_;subst q1_
  cases t
  ·exact IsiPair.str_int (m7 I h)
  ·exact IsiPair.str_bool (m7 I h)
  ·exact IsiPair.str_str (n6 I h)
  ·exact IsiPair.str_tuple (m7 I h)
  ·exact IsiPair.str_list (m7 I h)
 | tup l=>
  refine l6 r.ofTup λa vs n q1_ ht0 z_=>?_;subst q1_
  cases t
  ·exact IsiPair.tuple_int ht0 rfl (m7 I h)
  ·exact IsiPair.tuple_bool ht0 rfl (m7 I h)
  ·exact IsiPair.tuple_str ht0 rfl (m7 I h)
  ·exact IsiPair.tuple_tuple ht0 rfl (n6 I h)
  ·exact IsiPair.tuple_list ht0 rfl (m7 I h)
 | ref a=>
  obtain rfl:=r.ofRef;obtain⟨l,e,h⟩:=h;obtain⟨vs,⟨n,hp⟩,-⟩:=(I.sim.objs a _ e).1;cases t
  ·exact IsiPair.list_int hp rfl (m7 I h)
  ·exact IsiPair.list_bool hp rfl (m7 I h)
  ·exact IsiPair.list_str hp rfl (m7 I h)
  ·exact IsiPair.list_tuple hp rfl (m7 I h)
  ·exact IsiPair.list_list hp rfl (n6 I h))
theorem bP6{x:V}(h:aK3 g Q Y x):Cl g F (.builtin "len") [x] Z Y Q X:=by
 cases x with
 | tup l=>obtain⟨p,k⟩:=h;exact bl0 (by lia) k
 | str l=>obtain⟨p,k⟩:=h;exact by0 (by lia) k
 | ref a=>
  cases h with
  | mk l e r=>obtain⟨p,k⟩:=r;exact by6 e (by lia) k
  | scr ns e r=>obtain⟨p,k⟩:=r;rw[aa] at p k;exact bs1 e (by lia) k
 | _=>exact h.elim
theorem aZ4{x:V}(h:aB7 Q Y x):Cl g F (.type "tuple") [x] Z Y Q X:=by
 cases x with
 | tup l=>exact bB5 h
 | ref a=>obtain⟨l,e,p,k⟩:=h;exact bA0 e (u2 p) k
 | _=>exact h.elim
theorem bI5{x:V}(h:aE2 Q Y x):Cl g F (.type "list") [x] Z Y Q X:=by
 cases x with
 | tup l=>obtain⟨p,⟨k⟩⟩:=h;exact bQ3 (u2 p) k
 | ref a=>obtain⟨l,e,p,⟨k⟩⟩:=h;exact aX7 e (u2 p) k
 | _=>exact h.elim
noncomputable def BI.val:BI->Value
 | .len=>.builtin "len"
 | .all=>.builtin "all"
 | .int=>.type "int"
 | .min=>.builtin "min"
 | .max=>.builtin "max"
 | .sorted=>.builtin "sorted"
 | .tuple=>.type "tuple"
 | .list=>.type "list"
 | .sum=>.builtin "sum"
 | .dict=>.type "dict"
theorem bJ1{l:List V}(h:ap1 Y Q l):Cl g ⟨sc,vs,d,true⟩ (.builtin "min") l Z Y Q X:=by
 cases l with
 | nil=>exact h.elim
 | cons x l=>cases l with
  | nil=>exact h.elim
  | cons y l=>cases l with
   | nil=>refine g7 (E4 h) λa b q1_ q2_ k=>?_;subst q1_;subst q2_;exact ce8 k
   | cons _ _=>exact h.elim
theorem bR6{b:BI}{l:List V}(h:wBi g q b l Y Q):Cl g ⟨sc,vs,d,q⟩ b.val l Z Y Q X:=by
 cases b with
 | len=>refine a9 (D9 h) λx q1_ k=>?_;subst q1_;exact bP6 k
 | int=>refine a9 (D9 h) λx q1_ k=>?_;subst q1_;refine a9 (be3 k) λb q1_ k=>?_;subst q1_;exact bf0 (by cases b<;>exact k)
 | tuple=>refine a9 (D9 h) λx q1_ k=>?_;subst q1_;exact aZ4 k
 | list=>refine a9 (D9 h) λx q1_ k=>?_;subst q1_;exact bI5 k
 | all=>cases q with
  | true=>refine a9 (D9 h) λx q1_ k=>?_;subst q1_;obtain⟨a,rfl,bs,e,k⟩:=C5 k;exact by4 rfl e k
  | false=>exact h.elim
 | min=>cases q with
  | true=>exact bJ1 h
  | false=>exact h.elim
 | max=>cases q with
  | true=>refine j6 (av5 h) λx y q1_ k=>?_;subst q1_;refine g7 (E4 k) λa b q1_ q2_ k=>?_;subst q1_;subst q2_;exact bV7 k
  | false=>exact h.elim
 | sorted=>cases q with
  | true=>refine a9 (D9 h) λx q1_ k=>?_;subst q1_;obtain⟨a,rfl,l,e,h1,h2,k⟩:=C5 k;exact bU0 e h1 h2 k
  | false=>exact h.elim
 | sum=>cases q with
  | true=>refine a9 (D9 h) λx q1_ k=>?_;subst q1_;obtain⟨a,rfl,ns,e,k⟩:=C5 k;exact bp9 e k
  | false=>exact h.elim
 | dict=>cases q with
  | true=>refine a9 (D9 h) λx q1_ k=>?_;subst q1_;obtain⟨a,rfl,ps,e,hn,hz,k⟩:=C5 k;exact bI3 e hn hz k
  | false=>exact h.elim
noncomputable def ME.id:ME->String
 | .append=>"list.append"
 | .pop=>"list.pop"
theorem Own.elim{a:Addr}{K:Hp->List V->Prop}(h:Own Y a K):∃ l Y',Y a=some (.lst l)/\K Y' l/\∀ o,upd Y a o=upd Y' a o:=by
 cases h with
 | top k=>exact⟨_,_,d3 _ _ _,k,λo=>O0 _ _ _ _⟩
 | mk l h k=>exact⟨l,Y,h,k,λz_=>rfl⟩
theorem OwnI.elim{a:Addr}{K:Hp->List (Int×V)->Prop}(h:OwnI Y a K):∃ l Y',Y a=some (.di l)/\K Y' l/\∀ o,upd Y a o=upd Y' a o:=by
 cases h with
 | top k=>exact⟨_,_,d3 _ _ _,k,λo=>O0 _ _ _ _⟩
 | mk l h k=>exact⟨l,Y,h,k,λz_=>rfl⟩
theorem OwnS.elim{a:Addr}{K:Hp->List (Str×V)->Prop}(h:OwnS Y a K):∃ l Y',Y a=some (.ds l)/\K Y' l/\∀ o,upd Y a o=upd Y' a o:=by
 cases h with
 | top k=>exact⟨_,_,d3 _ _ _,k,λo=>O0 _ _ _ _⟩
 | mk l h k=>exact⟨l,Y,h,k,λz_=>rfl⟩
theorem bq7{a:Addr}{k v:V}{K:Hp->Prop}(h:aM0 Y a v K k):StI g F (.ref a) k v Z Y K:=by
 cases k with
 | int n=>
  cases h with
  | l h=>
   obtain⟨l,Y',e,⟨⟨h0,h1,h2⟩,k⟩,u⟩:=h.elim;exact bt0 e h0 h1 (Int.lt_of_le_of_lt (eV.mpr h2) (by decide)) (by rw[u];exact k)
  | d h=>
   obtain⟨l,Y',e,⟨p,k⟩,u⟩:=h.elim;exact aG5 (kdI g) e (u2 p) (by show K (upd Y a _);rw[u];exact k)
 | str n=>
  obtain⟨l,Y',e,⟨p,k⟩,u⟩:=OwnS.elim h;exact aG5 (kdS g) e (u2 p) (by show K (upd Y a _);rw[u];exact k)
 | _=>exact h.elim
theorem bJ0{m:ME}{a:Addr}{l:List V}(h:wMe m a l Y Q):Cl g F (.builtin m.id) (.ref a::l) Z Y Q X:=by
 cases m with
 | append=>
  refine a9 (D9 h) λx q1_ k=>?_;subst q1_
  obtain⟨l,Y',e,⟨p,k⟩,u⟩:=k.elim;exact bO3 e (u2 p) (by rw[u];exact k)
 | pop=>
  refine a9 (D9 h) λx q1_ k=>?_;subst q1_
  refine a9 (R8 k) λn q1_ k=>?_;subst q1_
  obtain⟨l,Y',e,⟨p,k⟩,u⟩:=k.elim;have hlt:n.toNat<l.length:=ai9 p.2.1 p.2.2;exact bU1 e p.1 p.2.1 p.2.2 (ae hlt) (by rw[u];exact k _ (ae hlt))
end
section
variable{g:G}{T:Tab}{sc:Scope}{vs:List Str}{d:Nat}{q:Bool}{Z:Lo}{Y:Hp}{Q:VP}{QB:BP}{X:XP}
theorem t6{x:Str}(h:gl sc x=true):sc.names.lookup x=some .globalImplicit/\(x==("__debug__" : Str))=false:=⟨of_decide_eq_true (b9 h).1,m8 (b9 h).2⟩
theorem ce0{x:Str}(hT:TabOK g T)(h:at6 (T.lookup x)=true):Fn g x:=by
 cases e:T.lookup x with
 | none=>rw[e] at h;exact(ac h).elim
 | some it=>cases it with
  | fn k=>exact⟨_,_,_,hT.at' e⟩
  | _=>rw[e] at h;exact(ac h).elim
theorem D0{x:Str}{id:String}(hT:TabOK g T)(h:C7 id (T.lookup x)=true):Bi g x (.builtin id):=by
 cases e:T.lookup x with
 | none=>rw[e] at h;exact(ac h).elim
 | some it=>cases it with
  | bi k=>rw[e] at h;exact(of_decide_eq_true h:k=id)▸hT.at' e
  | _=>rw[e] at h;exact(ac h).elim
theorem w7{x:Str}{id:String}(hT:TabOK g T)(h:B1 id (T.lookup x)=true):Bi g x (.type id):=by
 cases e:T.lookup x with
 | none=>rw[e] at h;exact(ac h).elim
 | some it=>cases it with
  | ty k=>rw[e] at h;exact(of_decide_eq_true h:k=id)▸hT.at' e
  | _=>rw[e] at h;exact(ac h).elim
theorem aP7{x:Str}{D:List (Str×Int)}(hT:TabOK g T)(h:ap6 D (T.lookup x)=true):Gd g x D:=by
 cases e:T.lookup x with
 | none=>rw[e] at h;exact(ac h).elim
 | some it=>cases it with
  | dict k=>rw[e] at h;exact(of_decide_eq_true h:k=D)▸hT.at' e
  | _=>rw[e] at h;exact(ac h).elim
theorem bv0{x:Str}{b:BI}(hT:TabOK g T)(h:b.has (T.lookup x)=true):Bi g x b.val:=by
 cases b with
 | len=>exact D0 hT h
 | all=>exact D0 hT h
 | int=>exact w7 hT h
 | min=>exact D0 hT h
 | max=>exact D0 hT h
 | sorted=>exact D0 hT h
 | tuple=>exact w7 hT h
 | list=>exact w7 hT h
 | sum=>exact D0 hT h
 | dict=>exact w7 hT h
theorem cg3{c:Const}{k:Nat}{p:Pos}{v:V}(h:isC (some c) v=true)(hq:Q v Y):Ev g ⟨sc,vs,d,q⟩ (.Constant c k p) Z Y Q X:=by
 cases c with
 | none=>cases v with
  | none=>exact bB9 hq
  | _=>exact(ac h).elim
 | bool b=>cases v with
  | bool c=>exact bh4 ((of_decide_eq_true h:b=c)▸hq)
  | _=>exact(ac h).elim
 | int b=>cases v with
  | int c=>exact bz0 ((of_decide_eq_true h:b=c)▸hq)
  | _=>exact(ac h).elim
 | str b=>cases v with
  | str c=>exact cb7 ((of_decide_eq_true h:b=c)▸hq)
  | _=>exact(ac h).elim
 | _=>exact(ac h).elim
theorem S3{x:Expr}{v:V}(h:isC (C3 x) v=true)(hq:Q v Y):Ev g ⟨sc,vs,d,q⟩ x Z Y Q X:=by
 cases e:C3 x with
 | none=>rw[e] at h;exact(ac h).elim
 | some c=>refine p9 (aE6 e) λk p q1_=>?_;subst q1_;rw[e] at h;exact cg3 h hq
theorem ba8{x:Expr}{v:V}(hT:TabOK g T)(h:isG T sc v (t7 x)=true)(hq:Q v Y):Ev g ⟨sc,vs,d,q⟩ x Z Y Q X:=by
 cases e:t7 x with
 | none=>rw[e] at h;exact(ac h).elim
 | some n=>
  refine c6 (D1 e) λp q1_=>?_;subst q1_
  rw[e] at h;refine c5 (b9 h) λh1 h2=>?_
  refine c5 (t6 h1) λh3 h4=>?_
  cases e:T.lookup n with
  | none=>rw[e] at h2;exact(ac h2).elim
  | some it=>cases it with
   | int i=>cases v with
    | int j=>rw[e] at h2;exact bN1 (hT.at' e) h3 h4 ((of_decide_eq_true h2:i=j)▸hq)
    | _=>rw[e] at h2;exact(ac h2).elim
   | str i=>cases v with
    | str j=>rw[e] at h2;exact aS2 (hT.at' e) h3 h4 ((of_decide_eq_true h2:i=j)▸hq)
    | _=>rw[e] at h2;exact(ac h2).elim
   | _=>rw[e] at h2;exact(ac h2).elim
theorem Op2.mono{F:Blk}{t:Value->Value->Sem Value}{a b:V}{Q':VP}(h:Op2 g F t a b Z Y Q X)(k:∀ v Y,Q v Y->Q' v Y):Op2 g F t a b Z Y Q' X:=(λA env s x y I r1 r2=>
 pgo (h A env s x y I r1 r2) (λz_ z_ V Y' r i y q=>(λz_ k_=>k_ V Y' r i y (k _ _ q))) λz_ z_ p=>p)
theorem Tru.mono{F:Blk}{a:V}{Q':BP}(h:Tru g F a Z Y QB X)(k:∀ v Y,QB v Y->Q' v Y):Tru g F a Z Y Q' X:=(λA env s x I r=>
 A6 (h A env s x I r) (λz_ z_ Y' i y q=>(λz_ k_=>k_ Y' i y (k _ _ q))) λz_ z_ p=>p)
theorem Tst.mono{F:Blk}{e:Expr}{Q':BP}(h:Tst g F e Z Y QB X)(k:∀ v Y,QB v Y->Q' v Y):Tst g F e Z Y Q' X:=(λA env s I=>
 A6 (h A env s I) (λz_ z_ Y' i y q=>(λz_ k_=>k_ Y' i y (k _ _ q))) λz_ z_ p=>p)
def SE(g:G)(T:Tab)(d:Nat)(q:Bool)(e:IE):Prop:=∀ {sc vs x Z Y Q X},i6 T e sc vs x=true->wE g d q e Z Y Q X->Ev g ⟨sc,vs,d,q⟩ x Z Y Q X
def SEs(g:G)(T:Tab)(d:Nat)(q:Bool)(e:IEs):Prop:=∀ {sc vs x Z Y Q X},u7 T e sc vs x=true->wEs g d q e Z Y Q X->Evs g ⟨sc,vs,d,q⟩ x Z Y (λl Y=>l.length=x.length/\Q l Y) X
def SI(g:G)(T:Tab)(d:Nat)(q:Bool)(e:II):Prop:=∀ {sc vs x Z Y Q X},R3 T e sc vs x=true->wI g d q e Z Y Q X->Itr g ⟨sc,vs,d,q⟩ x Z Y Q X
def ST(g:G)(T:Tab)(d:Nat)(q:Bool)(e:IE):Prop:=∀ {sc vs x Z Y Q X},i6 T e sc vs x=true->wT g d q e Z Y Q X->Tst g ⟨sc,vs,d,q⟩ x Z Y Q X
def SC(g:G)(T:Tab)(d:Nat)(q:Bool)(e:IEs):Prop:=∀ {sc vs x Z Y Q},u7 T e sc vs x=true->wC g d q e Z Y Q->D3 g ⟨sc,vs,d,q⟩ x Z Y Q
theorem s_k{v:V}(hT:TabOK g T):SE g T d q (.k v):=fun{sc vs x Z Y Q X} hc h=>by
 rcases(ct _ _).mp hc with e | e
 ·exact S3 e h
 ·exact ba8 hT e h
theorem s_v{i:Nat}:SE g T d q (.v i):=fun{sc vs x Z Y Q X} hc h=>by
 apply Q6 hc;intro n p hc1;refine a9 (aM4 h) λv e1 k=>?_
 exact aN6 (of_decide_eq_true (b9 hc1).1) e1 k (m8 (b9 hc1).2)
theorem br7{op:Operator}{a b:IE}(ha:SE g T d q a)(hb:SE g T d q b):SE g T d q (.bin op a b):=fun{sc vs x Z Y Q X} hc h=>by
 apply ax2 hc;intro l o r p hc1;refine k6 ((b9 hc1).imp id b9) λh1 h2 h3=>?_
 obtain rfl:=of_decide_eq_true h1;exact aL5 ((ha h2 h).mono λx Y h=>(hb h3 h).mono λy Y h=>bh1 h)
theorem bo9{op:CmpOp}{a b:IE}(ha:SE g T d q a)(hb:SE g T d q b):SE g T d q (.cmp op a b):=fun{sc vs x Z Y Q X} hc h=>by
 apply af9 hc;intro l o r p hc1;refine a9 (s9 hc1) λo' q1_ hc2=>?_;subst q1_
 refine a9 (s9 hc2) λr' q1_ hc3=>?_;subst q1_
 obtain⟨h1,h2,h3,h4⟩:=(b9 hc3).imp id λh=>(b9 h).imp id b9
 obtain rfl:=of_decide_eq_true h1;exact aS6 ((ha h3 h).mono λx Y h=>(hb h4 h).mono λy Y h=>O4 h) (m8 h2)
theorem be9{op:CmpOp}{a b:IE}(ha:SE g T d q a)(hb:SE g T d q b):ST g T d q (.cmp op a b):=fun{sc vs x Z Y Q X} hc h=>by
 apply af9 hc;intro l o r p hc1;refine a9 (s9 hc1) λo' q1_ hc2=>?_;subst q1_
 refine a9 (s9 hc2) λr' q1_ hc3=>?_;subst q1_
 obtain⟨h1,h2,h3,h4⟩:=(b9 hc3).imp id λh=>(b9 h).imp id b9
 obtain rfl:=of_decide_eq_true h1;exact aw0 ((ha h3 h).mono λx Y h=>(hb h4 h).mono λy Y h=>(O4 (F:=⟨sc,vs,d,q⟩) h).mono λt Y h=>H3 h) (m8 h2)
theorem cb2{o p:CmpOp}{a b c:IE}(ha:SE g T d q a)(hb:SE g T d q b)(hz:SE g T d q c):SE g T d q (.chain o p a b c):=fun{sc vs x Z Y Q X} hc h=>by
 obtain⟨⟨l,o',r⟩,e,hc1⟩:=i7 hc;refine c6 (aj3 e) λp' q1_=>?_;subst q1_
 refine j6 (A8 hc1) λo1 o2 q1_ hc2=>?_;subst q1_
 refine j6 (A8 hc2) λr1 r2 q1_ hc3=>?_;subst q1_
 obtain⟨h1,h2,h3,h4,h5,h6⟩:=(b9 hc3).imp id λh=>(b9 h).imp id λh=>(b9 h).imp id λh=>(b9 h).imp id b9
 obtain rfl:=of_decide_eq_true h1;obtain rfl:=of_decide_eq_true h2;exact aP8 ((ha h4 h).mono λx Y h=>(hb h5 h).mono λy Y h=>(O4 (F:=⟨sc,vs,d,q⟩) h).mono λt Y h=>(H3 h).mono λtt Y i=>
  ⟨λe=>(hz h6 (i.1 e)).mono λz Y h=>O4 h,i.2⟩) (m8 h3)
theorem aO7{o p:CmpOp}{a b c:IE}(ha:SE g T d q a)(hb:SE g T d q b)(hz:SE g T d q c):ST g T d q (.chain o p a b c):=fun{sc vs x Z Y Q X} hc h=>by
 obtain⟨⟨l,o',r⟩,e,hc1⟩:=i7 hc;refine c6 (aj3 e) λp' q1_=>?_;subst q1_
 refine j6 (A8 hc1) λo1 o2 q1_ hc2=>?_;subst q1_
 refine j6 (A8 hc2) λr1 r2 q1_ hc3=>?_;subst q1_
 obtain⟨h1,h2,h3,h4,h5,h6⟩:=(b9 hc3).imp id λh=>(b9 h).imp id λh=>(b9 h).imp id λh=>(b9 h).imp id b9
 obtain rfl:=of_decide_eq_true h1;obtain rfl:=of_decide_eq_true h2;exact bt6 ((ha h4 h).mono λx Y h=>(hb h5 h).mono λy Y h=>(O4 (F:=⟨sc,vs,d,q⟩) h).mono λt Y h=>(H3 h).mono λtt Y i=>
  ⟨λe=>(hz h6 (i.1 e)).mono λz Y h=>(O4 (F:=⟨sc,vs,d,q⟩) h).mono λt Y h=>H3 h,i.2⟩) (m8 h3)
theorem bM1{a:IE}(ha:SE g T d q a):SE g T d q (.not a):=fun{sc vs x Z Y Q X} hc h=>by
 apply ac4 hc;intro l r p hc1;obtain rfl:=of_decide_eq_true (b9 hc1).1;exact aJ1 ((ha (b9 hc1).2 h).mono λx Y h=>bV2 (H3 h))
theorem bw0{a:IE}(ha:ST g T d q a):ST g T d q (.not a):=fun{sc vs x Z Y Q X} hc h=>by
 apply ac4 hc;intro l r p hc1;obtain rfl:=of_decide_eq_true (b9 hc1).1;exact bD3 (ha (b9 hc1).2 h)
theorem ca2{a:IE}(ha:SE g T d q a):SE g T d q (.neg a):=fun{sc vs x Z Y Q X} hc h=>by
 apply ac4 hc;intro l r p hc1;obtain rfl:=of_decide_eq_true (b9 hc1).1;refine aJ1 ((ha (b9 hc1).2 h).mono λx Y h=>?_)
 refine a9 (R8 h) λi q1_ k=>?_;subst q1_
 exact bS9 k
theorem ar9{o:BoolOp}{p:Pos}{r:Expr}{es:List Expr}{env:Env}:eval (Q4 o p r es) env=boolOp p o (evalEach (r::es) env):=by cases es<;>rfl
theorem bz9{a b:IE}(ha:SE g T d q a)(hb:SE g T d q b):SE g T d q (.and a b):=fun{sc vs x Z Y Q X} hc h=>by
 apply Z1 hc;intro o l p hc1;obtain rfl:=of_decide_eq_true (b9 hc1).1;refine x8 (W8 (b9 hc1).2) λl r es q1_ hc2=>?_;subst q1_
 have ev:=(ha (b9 hc2).1 h).mono λx Y h=>(H3 (g:=g) (F:=⟨sc,vs,d,q⟩) (Z:=Z) (X:=X) h)
 refine(λA env s I=>?_)
 show wpAny _ A (do
  let v <- eval l env
  standAt p
  let t <- holding [v] (truthy v)
  match BoolOp.And,t with
  | .And,false | .Or,true=>pure v
  | _,_=>boolOp p .And (evalEach (r::es) env)) _ _ s
 refine wpAny_bind (pgo (ev A env s I) (λv sv V zs r I1 st1 h1=>wpAny_bind (wpAny_standAt (wpAny_bind (wpAny_holding (A6 (h1 A env sv v I1 r) (λt s2 Y2 sw st2 h2=>?_) λz_ z_ p=>p.step st1))))) λz_ z_ p=>p)
 have st12:=st1.trans st2;obtain⟨i1,i2⟩:=h2;cases t with
 | false=>exact wpAny_pure (λz_ k_=>k_ V Y2 (r.mono st2.tups) sw st12 (i2 rfl))
 | true=>
  show wpAny _ A (boolOp p .And _) _ _ s2;rw[<- ar9];exact wpAny_mono ((hb (b9 hc2).2 (i1 rfl)) A env s2 sw) (λz_ z_ p=>p.step st12) λz_ z_ p=>p.step st12
theorem bk2{a b:IE}(ha:SE g T d q a)(hb:SE g T d q b):SE g T d q (.or a b):=fun{sc vs x Z Y Q X} hc h=>by
 apply Z1 hc;intro o l p hc1;obtain rfl:=of_decide_eq_true (b9 hc1).1;refine x8 (W8 (b9 hc1).2) λl r es q1_ hc2=>?_;subst q1_
 have ev:=(ha (b9 hc2).1 h).mono λx Y h=>(H3 (g:=g) (F:=⟨sc,vs,d,q⟩) (Z:=Z) (X:=X) h)
 refine(λA env s I=>?_)
 show wpAny _ A (do
  let v <- eval l env
  standAt p
  let t <- holding [v] (truthy v)
  match BoolOp.Or,t with
  | .And,false | .Or,true=>pure v
  | _,_=>boolOp p .Or (evalEach (r::es) env)) _ _ s
 refine wpAny_bind (pgo (ev A env s I) (λv sv V zs r I1 st1 h1=>wpAny_bind (wpAny_standAt (wpAny_bind (wpAny_holding (A6 (h1 A env sv v I1 r) (λt s2 Y2 sw st2 h2=>?_) λz_ z_ p=>p.step st1))))) λz_ z_ p=>p)
 have st12:=st1.trans st2;obtain⟨i1,i2⟩:=h2;cases t with
 | true=>exact wpAny_pure (λz_ k_=>k_ V Y2 (r.mono st2.tups) sw st12 (i1 rfl))
 | false=>
  show wpAny _ A (boolOp p .Or _) _ _ s2;rw[<- ar9];exact wpAny_mono ((hb (b9 hc2).2 (i2 rfl)) A env s2 sw) (λz_ z_ p=>p.step st12) λz_ z_ p=>p.step st12
theorem aO9{F:Blk}{p:Pos}{r:Expr}{es:List Expr}(h:Tst g F (Q4 .And p r es) Z Y QB X):F7 g F .And (r::es) Z Y QB X:=by
 cases es with
 | nil=>exact aM1 (Tst.mono h λb Y hb=>⟨λe=>bZ9 (e▸hb),λe=>e▸hb⟩)
 | cons _ _=>exact(λA env s I=>h A env s I)
theorem aW7{F:Blk}{p:Pos}{r:Expr}{es:List Expr}(h:Tst g F (Q4 .Or p r es) Z Y QB X):F7 g F .Or (r::es) Z Y QB X:=by
 cases es with
 | nil=>exact an5 (Tst.mono h λb Y hb=>⟨λe=>e▸hb,λe=>bZ6 (e▸hb)⟩)
 | cons _ _=>exact(λA env s I=>h A env s I)
theorem bQ7{a b:IE}(ha:ST g T d q a)(hb:ST g T d q b):ST g T d q (.and a b):=fun{sc vs x Z Y Q X} hc h=>by
 apply Z1 hc;intro o l p hc1;obtain rfl:=of_decide_eq_true (b9 hc1).1;refine x8 (W8 (b9 hc1).2) λl r es q1_ hc2=>?_;subst q1_
 exact aG9 (aM1 ((ha (b9 hc2).1 h).mono λt Y i=>⟨λe=>aO9 (hb (b9 hc2).2 (i.1 e)),i.2⟩))
theorem aU1{a b:IE}(ha:ST g T d q a)(hb:ST g T d q b):ST g T d q (.or a b):=fun{sc vs x Z Y Q X} hc h=>by
 apply Z1 hc;intro o l p hc1;obtain rfl:=of_decide_eq_true (b9 hc1).1;refine x8 (W8 (b9 hc1).2) λl r es q1_ hc2=>?_;subst q1_
 exact aG9 (an5 ((ha (b9 hc2).1 h).mono λt Y i=>⟨i.1,λe=>aW7 (hb (b9 hc2).2 (i.2 e))⟩))
theorem am6{es:IEs}:∀ {sc:Scope} {vs:List Str} {l:List Expr},u7 T es sc vs l=true->∀ env pos,(backTo pos (starEach l env)).any (·.1)=false:=fun{sc vs l}=>by
 induction l generalizing es with
 | nil=>intro _ env pos;rfl
 | cons e l ih=>
  intro hc env pos;cases es with
  | nil=>exact(ac hc).elim
  | cons a es=>
   refine k6 ((b9 hc).imp id b9) λh1 h2 h3=>?_
   rw[z7 (m8 h1)];exact ih h3 env pos
theorem by7:SEs g T d q .nil:=fun{sc vs x Z Y Q X} hc h=>by
 obtain rfl:=aH.mp hc;exact U7 ⟨rfl,h⟩
theorem bG4{a:IE}{es:IEs}(ha:SE g T d q a)(he:SEs g T d q es):SEs g T d q (.cons a es):=fun{sc vs x Z Y Q X} hc h=>by
 cases x with
 | nil=>exact(ac hc).elim
 | cons e l=>
  refine k6 ((b9 hc).imp id b9) λh1 h2 h3=>?_
  exact Q1 ((ha h2 h).mono λv Y h=>(he h3 h).mono λl Y h=>⟨congrArg (· + 1) h.1,h.2⟩) (am6 h3) (λenv=>z7 (m8 h1))
theorem bR4{es:IEs}(he:SEs g T d q es):SE g T d q (.tup es):=fun{sc vs x Z Y Q X} hc h=>by
 apply af4 hc;intro l k p hc1;have hl:=of_decide_eq_true (b9 hc1).1;exact an3 ((he (b9 hc1).2 h).mono λl Y h=>⟨u2 (h.1▸hl),h.2⟩)
theorem bc0{es:IEs}(he:SEs g T d q es):SE g T d q (.lst es):=fun{sc vs x Z Y Q X} hc h=>by
 apply bU6 hc;intro l p hc1;have hl:=of_decide_eq_true (b9 hc1).1;exact ab7 ((he (b9 hc1).2 h).mono λl Y h=>⟨u2 (h.1▸hl),h.2.1⟩)
theorem aq5{a b:IE}(ha:SE g T d q a)(hb:SE g T d q b):SE g T d q (.itm a b):=fun{sc vs x Z Y Q X} hc h=>by
 apply O9 hc;intro l r p hc1;refine k6 ((b9 hc1).imp id b9) λh1 h2 h3=>?_
 exact al8 ((ha h2 h).mono λx Y h=>(hb h3 h).mono λy Y h=>bL9 h) (λz_ z_=>ah0 (bl.mp h1))
theorem cc0{x:Expr}{v:V}(h:isC (C3 x) v=true):J5 x=none:=by
 cases e:C3 x with
 | none=>rw[e] at h;exact(ac h).elim
 | some c=>refine p9 (aE6 e) λk p q1_=>?_;subst q1_;rfl
theorem aB2{a:IE}{n:Nat}(ha:SE g T d q a):SE g T d q (.itk a n):=fun{sc vs x Z Y Q X} hc h=>by
 apply O9 hc;intro l r p hc1;refine k6 ((b9 hc1).imp id b9) λh1 h2 h3=>?_
 exact al8 ((ha h3 h).mono λx Y h=>S3 h1 (aO8 (of_decide_eq_true h2) h)) (λz_ z_=>ah0 (cc0 h1))
theorem bO2{es:IEs}{i:IE}(he:SEs g T d q es)(hi:SE g T d q i):SE g T d q (.pick es i):=fun{sc vs x Z Y Q X} hc h=>by
 apply O9 hc;intro l r p hc1;refine k6 ((b9 hc1).imp id b9) λh1 h2 h3=>?_
 refine a9 (i7 h3) λl e hc2=>?_
 refine c6 (ab9 e) λp' q1_=>?_;subst q1_
 have hl:=of_decide_eq_true (b9 hc2).1;refine bF8 ((he (b9 hc2).2 h).mono λl Y h=>⟨u2 (h.1▸hl),(hi h2 h.2).mono λk Y h=>?_⟩) (λz_ z_=>ah0 (bl.mp h1))
 cases k with
 | int n=>
  obtain⟨h0,h1,k⟩:=h;have hlt:n.toNat<l.length:=ai9 h0 h1;exact⟨n,_,rfl,h0,by lia,ae hlt,k _ (ae hlt)⟩
 | _=>exact h.elim
theorem aL8{a:IE}(ha:SE g T d q a){x:Option Expr}(hc:ad6 (i6 T a sc vs) (am0 a) x=true)(h:wE g d q a Z Y Q X):EvO g ⟨sc,vs,d,q⟩ x Z Y Q X:=by
 cases x with
 | some e=>exact bk0 (ha hc h)
 | none=>
  cases a with
  | k v=>cases v with
   | none=>exact bp2 h
   | _=>exact(ac hc).elim
  | _=>exact(ac hc).elim
theorem EvO.mono{F:Blk}{e:Option Expr}{Q':VP}(h:EvO g F e Z Y Q X)(k:∀ v Y,Q v Y->Q' v Y):EvO g F e Z Y Q' X:=(λA env s I=>
 pgo (h A env s I) (λz_ z_ V Y' r i y q=>(λz_ k_=>k_ V Y' r i y (k _ _ q))) λz_ z_ p=>p)
theorem bO6{a lo hi:IE}(ha:SE g T d q a)(hlo:SE g T d q lo)(hhi:SE g T d q hi):SE g T d q (.slc a lo hi):=fun{sc vs x Z Y Q X} hc h=>by
 apply O9 hc;intro l r p hc1;obtain⟨⟨u,w,z⟩,e,hc2⟩:=i7 hc1;refine c6 (bQ0 e) λp' q1_=>?_;subst q1_
 obtain⟨h1,h2,h3,h4⟩:=(b9 hc2).imp id λh=>(b9 h).imp id b9
 obtain rfl:=bl.mp h1;refine bF6 ((ha h2 h).mono λx Y h=>(aL8 hlo h3 h).mono λu Y h=>(aL8 hhi h4 h).mono λw Y h=>?_)
 refine a9 (ax1 h) λk1 o1 h=>?_
 refine a9 (ax1 h) λk2 o2 h=>?_
 exact⟨k1,k2,o1,o2,aR0 h⟩
theorem aI7{f:Str}{es:IEs}(hT:TabOK g T)(he:SEs g T d q es):SE g T d q (.call f es):=fun{sc vs x Z Y Q X} hc h=>by
 refine B0 (z0 hc) λn as np p q1_ hc1=>?_;subst q1_
 obtain⟨h1,h2,h3,h4⟩:=(b9 hc1).imp id λh=>(b9 h).imp id b9
 obtain rfl:=of_decide_eq_true h1;refine c5 (t6 h2) λh5 h6=>?_
 exact bI0 (ce0 hT h3) h5 h6 ((he h4 h).mono λl Y h=>h.2)
set_option tactic.hygienic true in
theorem aH5{b:BI}{es:IEs}(hT:TabOK g T)(he:SEs g T d q es):SE g T d q (.bi b es):=fun{sc vs x Z Y Q X} hc h=>by
 refine B0 (z0 hc) λn as np p q1_ hc1=>?_;subst q1_
 refine k6 ((b9 hc1).imp id b9) λh1 h2 h3=>?_
 refine c5 (t6 h1) λh5 h6=>?_
 have hb:=bv0 hT h2;have ev:=(he h3 h).mono λl Y h=>bR6 (sc:=sc) (vs:=vs) (d:=d) (Z:=Z) (X:=X) h.2
 cases b
 case int=>exact u_t hb h5 ev h6
 case tuple=>exact u_t hb h5 ev h6
 case list=>exact u_t hb h5 ev h6
 case dict=>exact u_t hb h5 ev h6
 all_goals exact u_b hb h5 ev h6
theorem ap3{a:IE}{t:TY}(hT:TabOK g T)(ha:SE g T d q a):SE g T d q (.isi a t):=fun{sc vs x Z Y Q X} hc h=>by
 refine B0 (z0 hc) λn as np p q1_ hc1=>?_;subst q1_
 refine k6 ((b9 hc1).imp id b9) λh1 h2 h3=>?_
 refine j6 (A8 h3) λe ty q1_ hc2=>?_;subst q1_
 refine k6 ((b9 hc2).imp id b9) λk3 h4 h5=>?_
 refine a9 (i7 h5) λm e' hc3=>?_
 refine c6 (D1 e') λp' q1_=>?_;subst q1_
 refine c5 (t6 h1) λh6 h7=>?_
 refine c5 (t6 (b9 hc3).1) λh8 h9=>?_
 exact an4 (D0 hT h2) (w7 hT (b9 hc3).2) h6 h8 ((ha h4 h).mono λv Y h=>aW1 h) h7 h9 (λenv=>z7 (m8 k3))
theorem bo2{l:List (Bool×Sem Value)}(h:l.any (·.1)=false):l.all (λx=>!x.1)=true:=by
 rw[List.all_eq_not_any_not];simp only[Bool.not_not];rw[h];rfl
theorem ae3{as:List Expr}{p:Pos}{env:Env}(h:(backTo p (starEach as env)).any (·.1)=false)(hl:as.length<20):((backTo p (starEach as env)).all (λx=>!x.1)&&(backToKw p (keywordEach [] env)).all (λx=>x.1.isSome)
   && decide (as.length+([]:List Keyword).length+(if ([]:List Keyword).isEmpty then 0 else 1)<30))=true:=by
 rw[bo2 h];exact decide_eq_true (by simp;lia)
theorem cj0{m:ME}{o:IE}{es:IEs}(ho:SE g T d q o)(he:SEs g T d q es):SE g T d q (.meth m o es):=fun{sc vs x Z Y Q X} hc h=>by
 apply ac0 hc;intro f as ks p hc1;refine c5 (b9 hc1) λh0 hc2=>?_
 obtain rfl:ks=[]:=aH.mp h0;apply ag6 (x:=f) hc2;intro ob n ap hc3;obtain⟨h1,h2,h3,h4,h5,h6⟩:=(b9 hc3).imp id λh=>(b9 h).imp id λh=>(b9 h).imp id λh=>(b9 h).imp id b9
 obtain rfl:n=m.nm:=of_decide_eq_true h1;have hl:as.length<20:=of_decide_eq_true h4;have ev:Ev g ⟨sc,vs,d,q⟩ ob Z Y (λv zs=>∃ a l,v=.ref a/\zs a=some (.lst l)/\Evs g ⟨sc,vs,d,q⟩ as Z zs (λus Y2=>Cl g ⟨sc,vs,d,q⟩ (.builtin m.id) (.ref a::us) Z Y2 Q X) X) X:=(ho h5 h).mono λv Y h=>by
  obtain⟨a,rfl,l,e,h⟩:=C5 h;exact⟨a,l,rfl,e,(he h6 h).mono λus Y h=>bJ0 h.2⟩
 have hb:=λenv=>aO0 h3 (n:=m.nm) (env:=env) (w:=eval ob env)
 have hf:=λenv=>ae3 (am6 h6 env p) hl
 cases m with
 | append=>exact aO1 slot_list_append type_list_append ev h2 hb hf
 | pop=>exact aO1 PySem.F.slot_list_pop PySem.F.type_list_pop ev h2 hb hf
theorem aX8{D:List (Str×Int)}{a:IE}(hT:TabOK g T)(ha:SE g T d q a):SE g T d q (.get D a):=fun{sc vs x Z Y Q X} hc h=>by
 apply ac0 hc;intro f as ks p hc1;refine c5 (b9 hc1) λh0 hc2=>?_
 obtain rfl:ks=[]:=aH.mp h0;apply ag6 (x:=f) hc2;intro ob n ap hc3;refine k6 ((b9 hc3).imp id b9) λh1 h2 hc4=>?_
 obtain rfl:n=Str.ofString "get":=of_decide_eq_true h1;refine a9 (s9 hc4) λe1 q1_ hc5=>?_;subst q1_
 refine k6 ((b9 hc5).imp id b9) λh3 h4 hc6=>?_
 apply Q6 (x:=ob) hc6;intro dn np hc7;refine c5 (t6 (b9 hc7).1) λh5 h6=>?_
 have hs:∀ env,starEach [e1] env=[(false,eval e1 env)]:=λenv=>z7 (m8 h3)
 refine bW9 (aP7 hT (b9 hc7).2) h5 h6 ((ha h4 h).mono λv Y h=>?_) h2 (λenv=>rfl) (λenv=>ae3 (by rw[hs];rfl) (by simp)) hs
 refine a9 (V0 h) λy q1_ h=>?_;subst q1_
 refine⟨y,rfl,?_⟩;cases h with
 | none e k=>rw[e];exact k
 | some i e k=>rw[e];exact k
theorem bZ2{b:Bool}:SE g T d q (.dic0 b):=fun{sc vs x Z Y Q X} hc h=>by
 refine a9 (i7 hc) λt e hc1=>?_
 refine c6 (ak5 e) λp q1_=>?_;subst q1_
 rw[aH.mp (b9 hc1).1,aH.mp (b9 hc1).2];cases b with
 | true=>obtain⟨k⟩:=h;exact az5 (kdS g) k
 | false=>obtain⟨k⟩:=h;exact az5 (kdI g) k
theorem cd0{b:Bool}{k v:IE}(hk:SE g T d q k)(hv:SE g T d q v):SE g T d q (.dic1 b k v):=fun{sc vs x Z Y Q X} hc h=>by
 obtain⟨⟨ks,ws⟩,e,hc1⟩:=i7 hc;refine c6 (ak5 e) λp q1_=>?_;subst q1_
 refine a9 (s9 hc1) λko e1 hc2=>?_
 refine a9 (i7 hc2) λke e2 hc3=>?_
 refine a9 (s9 hc3) λve e3 hc4=>?_
 obtain rfl:ks=[some ke]:=by rw[<- e2];exact e1
 obtain rfl:ws=[ve]:=e3;cases b with
 | true=>exact az9 (kdS g) ((hk (b9 hc4).1 h).mono λx Y h=>(hv (b9 hc4).2 h).mono λy Y h=>by obtain⟨k,rfl,⟨h⟩⟩:=V0 h;exact⟨k,rfl,h⟩)
 | false=>exact az9 (kdI g) ((hk (b9 hc4).1 h).mono λx Y h=>(hv (b9 hc4).2 h).mono λy Y h=>by obtain⟨k,rfl,⟨h⟩⟩:=R8 h;exact⟨k,rfl,h⟩)
theorem be1{n:Nat}{v:Int}:SE g T d q (.pw n v):=fun{sc vs x Z Y Q X} hc h=>by
 apply ax2 hc;intro l o r p hc1;obtain⟨h1,h2,h3,h4,h5⟩:=(b9 hc1).imp id λh=>(b9 h).imp id λh=>(b9 h).imp id b9
 obtain rfl:=of_decide_eq_true h1;have hn:=of_decide_eq_true h4;obtain rfl:=of_decide_eq_true h5;refine aL5 (S3 h2 (S3 h3 (br2 (aJ n) ?_ h)));have:(Builtin.Int.intBits 10:Int)=4:=by decide +kernel
 rw[this];lia
theorem bA8{a k z:IE}(ha:SE g T d q a)(hk:SE g T d q k)(hz:SE g T d q z):SE g T d q (.dg2 a k z):=fun{sc vs x Z Y Q X} hc h=>by
 apply ac0 hc;intro f as ks p hc1;refine c5 (b9 hc1) λh0 hc2=>?_
 obtain rfl:ks=[]:=aH.mp h0;apply ag6 (x:=f) hc2;intro ob n ap hc3;obtain⟨h1,h2,h3,h4,hc4⟩:=(b9 hc3).imp id λh=>(b9 h).imp id λh=>(b9 h).imp id b9
 obtain rfl:n=Str.ofString "get":=of_decide_eq_true h1;refine j6 (A8 hc4) λe y q1_ hc5=>?_;subst q1_
 obtain⟨h5,h6,h7,h8⟩:=(b9 hc5).imp id λh=>(b9 h).imp id b9
 have hs:∀ env,starEach [e,y] env=[(false,eval e env),(false,eval y env)]:=λenv=>by rw[z7 (m8 h5),z7 (m8 h6)];rfl
 refine bN6 (kdS g) ((ha h4 h).mono λv Y h=>?_) h2 (λenv=>aO0 h3) (λenv=>ae3 (by rw[hs];rfl) (show 2<20 by decide)) hs
 obtain⟨b,rfl,l,e,h⟩:=C5 h;refine⟨b,l,rfl,e,(hk h7 h).mono λu Y h=>(hz h8 h).mono λw Y h=>?_⟩
 obtain⟨n,rfl,l',e',h⟩:=V0 h;exact⟨n,l',rfl,e',h⟩
theorem aA8{a:IE}(hT:TabOK g T)(ha:SE g T d q a):SE g T d q (.isl a):=fun{sc vs x Z Y Q X} hc h=>by
 refine B0 (z0 hc) λn as np p q1_ hc1=>?_;subst q1_
 refine k6 ((b9 hc1).imp id b9) λh1 h2 h3=>?_
 refine j6 (A8 h3) λe ty q1_ hc2=>?_;subst q1_
 refine k6 ((b9 hc2).imp id b9) λk3 h4 h5=>?_
 refine a9 (i7 h5) λl e' hc3=>?_
 refine p9 (S8 e') λk' p' q1_=>?_;subst q1_
 refine j6 (A8 hc3) λm1 m2 q1_ hc4=>?_;subst q1_
 refine a9 (i7 (b9 hc4).1) λt1 e1 hc5=>?_
 refine c6 (D1 e1) λp1 q1_=>?_;subst q1_
 refine a9 (i7 (b9 hc4).2) λt2 e2 hc6=>?_
 refine c6 (D1 e2) λp2 q1_=>?_;subst q1_
 refine c5 (t6 h1) λh6 h7=>?_
 refine c5 (t6 (b9 hc5).1) λh8 h9=>?_
 refine c5 (t6 (b9 hc6).1) λh10 h11=>?_
 refine bZ8 (D0 hT h2) (w7 hT (b9 hc5).2) (w7 hT (b9 hc6).2) h6 h8 h10 ((ha h4 h).mono λv Y h=>?_) h7 h9 h11 (λenv=>z7 (m8 k3))
 cases v with
 | tup l=>exact⟨.inr ⟨l,rfl⟩,h⟩
 | ref a=>obtain⟨l,e,h⟩:=h;exact⟨.inl ⟨a,l,rfl,e⟩,h⟩
 | _=>exact h.elim
theorem Evk.mono{F:Blk}{keys:List (Option Expr)}{values:List Expr}{ks:List Str}{Q Q':List V->Hp->Prop}(h:Evk g F keys values ks Z Y Q X)(k:∀ l Y,Q l Y->Q' l Y):Evk g F keys values ks Z Y Q' X:=
 (λA env s pos I=>wpAny_mono (h A env s pos I) (λps s' p=>by refine p _ ?_;clear p;rintro Vs Y' a b c e q;exact(λz_ k_=>k_ Vs Y' a b c e (k _ _ q))) λz_ z_ p=>p)
def SEk(g:G)(T:Tab)(d:Nat)(q:Bool)(e:IEs):Prop:=∀ {sc vs ks keys x Z Y Q X},J7 ks keys=true->keys.length=x.length->u7 T e sc vs x=true->wEs g d q e Z Y Q X->Evk g ⟨sc,vs,d,q⟩ keys x ks Z Y Q X
theorem bh9{ks:List Str}{keys:List (Option Expr)}(h:J7 ks keys=true)(e:keys.length=0):ks=[]/\keys=[]:=by
 obtain rfl:=bf.mp e;cases ks with
 | nil=>exact⟨rfl,rfl⟩
 | cons k ks=>exact tf h
theorem cd5{ks:List Str}{keys:List (Option Expr)}{n:Nat}(h:J7 ks keys=true)(e:keys.length=n+1):∃ k ks' ke keys',ks=k::ks'/\keys=some ke::keys'/\isC (C3 ke) (.str k)=true/\J7 ks' keys'=true/\keys'.length=n:=by
 cases keys with
 | nil=>cases e
 | cons o keys=>cases ks with
  | nil=>exact tf h
  | cons k ks=>
   refine a9 (i7 (b9 h).1) λke q1_ h1=>?_;subst q1_
   exact⟨k,ks,ke,keys,rfl,rfl,h1,(b9 h).2,Nat.succ.inj e⟩
theorem cj3:SEk g T d q .nil:=fun{sc vs ks keys x Z Y Q X} hk hl hc h=>by
 obtain rfl:=aH.mp hc;refine c5 (bh9 hk hl) λq1_ q2_=>?_;subst q1_;subst q2_
 exact bL5 h
theorem cc4{e:IE}{es:IEs}(he:SE g T d q e)(hs:SEk g T d q es):SEk g T d q (.cons e es):=fun{sc vs ks keys x Z Y Q X} hk hl hc h=>by
 cases x with
 | nil=>exact tf hc
 | cons y x=>
  refine k6 ((b9 hc).imp id b9) λh1 h2 h3=>?_
  refine bR3 (cd5 hk hl) λk ks ke keys q1_ q2_ hk1 hk2 hk3=>?_;subst q1_;subst q2_
  exact bo6 (S3 hk1 ⟨rfl,(he h2 h).mono λv Y h=>hs hk2 hk3 h3 h⟩)
theorem aS7:∀ {ks:List Str} {keys:List (Option Expr)},J7 ks keys=true->keys.all (·.isSome)=true:=by
 intro ks;induction ks with
 | nil=>intro keys h;rw[aH.mp h];rfl
 | cons k ks ih=>
  intro keys h;cases keys with
  | nil=>exact tf h
  | cons o keys=>
   refine a9 (i7 (b9 h).1) λke q1_ h1=>?_;subst q1_
   exact ih (keys:=keys) (b9 h).2
theorem bd9{ks:List Str}{es:IEs}(he:SEk g T d q es):SE g T d q (.dik ks es):=fun{sc vs x Z Y Q X} hc h=>by
 obtain⟨⟨keys,vals⟩,e,hc1⟩:=i7 hc;refine c6 (ak5 e) λp q1_=>?_;subst q1_
 obtain⟨h1,h2,h3,h4,h5,h6⟩:=(b9 hc1).imp id λh=>(b9 h).imp id λh=>(b9 h).imp id λh=>(b9 h).imp id b9
 have h0:keys≠[]:=λe=>by rw[e] at h3;exact tf h3
 exact ce9 (aS7 h1) (of_decide_eq_true h2) h0 (of_decide_eq_true h4) (of_decide_eq_true h5) ((he h1 (of_decide_eq_true h2) h6 h).mono λl Y h=>by obtain⟨h⟩:=h;exact h)
theorem ar3{x:Str}(hT:TabOK g T)(h:W7 (T.lookup x)=true):∃ C bm,T.lookup x=some (.cls C bm)/\XC g x C bm:=by
 cases e:T.lookup x with
 | none=>rw[e] at h;exact(ac h).elim
 | some it=>cases it with
  | cls C bm=>exact⟨C,bm,rfl,hT.at' e⟩
  | _=>rw[e] at h;exact(ac h).elim
inductive SubR(g:G)(T:Tab)(b:Bool)(x y:Str):Prop
 | own (C:Addr) (bm:List Value) (C':Addr) (bm':List Value) (hx:XC g x C bm) (hy:XC g y C' bm') (e:T.lookup y=some (.cls C' bm')) (hb:(Value.ref C::bm).contains (.ref C')=b):SubR g T b x y
 | ty (C:Addr) (bm:List Value) (hx:XC g x C bm) (e:T.lookup y=some (.ty "ValueError")) (hb:Bi g y (.type "ValueError")) (e1:b=true):SubR g T b x y
theorem Ya5{b:Bool}{x y:Str}(hT:TabOK g T)(h:M3 b (T.lookup x) (T.lookup y)=true):SubR g T b x y:=by
 cases e:T.lookup x with
 | none=>rw[e] at h;exact tf h
 | some it=>cases it with
  | cls C bm=>
   rw[e] at h;cases e':T.lookup y with
   | none=>rw[e'] at h;exact tf h
   | some it=>cases it with
    | cls C' bm'=>rw[e'] at h;exact .own C bm C' bm' (hT.at' e) (hT.at' e') e' (eq_of_beq h)
    | ty id=>rw[e'] at h;have h:(decide (id = "ValueError")&&b)=true:=h;obtain rfl:id = "ValueError":=of_decide_eq_true (b9 h).1;exact .ty C bm (hT.at' e) e' (hT.at' e') (b9 h).2
    | _=>rw[e'] at h;exact tf h
  | _=>rw[e] at h;exact tf h
theorem bq6{x y:Str}{ys ns:List Str}{A B:Prop}(h:Hit x ys ns A B)(hc:U2 T y ys ns=true):(M3 true (T.lookup x) (T.lookup y)=true/\A)∨(M3 false (T.lookup x) (T.lookup y)=true/\B):=by
 cases h with
 | yes e a=>exact .inl ⟨aB.mp (b9 hc).1 x (dq.mp e),a⟩
 | no e b=>exact .inr ⟨aB.mp (b9 hc).2 x (dq.mp e),b⟩
theorem aB8{x y:Str}{ys ns:List Str}{K:Bool->Prop}(h:HitB x ys ns K)(hc:U2 T y ys ns=true):∃ b,M3 b (T.lookup x) (T.lookup y)=true/\K b:=by
 obtain⟨b,h1,h2,k⟩:=h;cases b with
 | true=>exact⟨_,aB.mp (b9 hc).1 x (dq.mp (h1 rfl)),k⟩
 | false=>exact⟨_,aB.mp (b9 hc).2 x (dq.mp (h2 rfl)),k⟩
theorem bY5{a:IE}{y:Str}{ys ns:List Str}(hT:TabOK g T)(ha:SE g T d q a):SE g T d q (.isx a y ys ns):=fun{sc vs x Z Y Q X} hc h=>by
 refine B0 (z0 hc) λn as np p q1_ hc1=>?_;subst q1_
 refine k6 ((b9 hc1).imp id b9) λh1 h2 h3=>?_
 refine j6 (A8 h3) λe ty q1_ hc2=>?_;subst q1_
 refine k6 ((b9 hc2).imp id b9) λk3 h4 h5=>?_
 refine a9 (i7 h5) λm e' hc3=>?_
 refine c6 (D1 e') λp' q1_=>?_;subst q1_
 obtain⟨hm,hg,hcl,ht⟩:=(b9 hc3).imp id λh=>(b9 h).imp id b9
 refine c5 (t6 h1) λh6 h7=>?_
 refine c5 (t6 hg) λh8 h9=>?_
 have ev:=ha h4 h;have st:∀ env,starEach [e,.Name m p'] env=(false,eval e env)::starEach [.Name m p'] env:=λenv=>z7 (m8 k3)
 rcases(ct _ _).mp hcl with hcl | hcl
 ·refine j6 (ar3 hT hcl) λC' bm' el hy=>?_
  refine bV3 (D0 hT h2) hy.bound h6 h8 (ev.mono λv Y h=>?_) h7 h9 st
  obtain⟨a,rfl,x,e,h⟩:=C5 h;refine a9 (aB8 h ht) λb k q=>?_
  cases Ya5 hT k with
  | own C bm C₂ bm₂ hx hy e2 hb=>rw[el] at e2;cases e2;exact bV0 e hx hy hb q
  | ty C bm hx e2=>rw[el] at e2;cases e2
 ·refine an4 (D0 hT h2) (w7 hT hcl) h6 h8 (ev.mono λv Y h=>?_) h7 h9 st
  obtain⟨a,rfl,x,e,h⟩:=C5 h;refine a9 (aB8 h ht) λb k q=>?_
  cases Ya5 hT k with
  | own C bm C₂ bm₂ hx hy e2 hb=>have:=hy.bound;rw[(w7 hT hcl).1] at this;cases this
  | ty C bm hx e2 hb e3=>subst e3;exact bi4 e hx q
end
section
variable{g:G}{T:Tab}{F:Blk}{sc:Scope}{vs:List Str}{d:Nat}{q:Bool}{Z:Lo}{Y:Hp}{Q:VP}{QB:BP}{X:XP}
theorem ci7{a:IE}(hT:TabOK g T)(ha:SE g T d q a):SE g T d q (.lrng a):=fun{sc vs x Z Y Q X} hc h=>by
 refine B0 (z0 hc) λn as np p q1_ hc1=>?_;subst q1_
 refine k6 ((b9 hc1).imp id b9) λh1 h2 hc2=>?_
 refine a9 (s9 hc2) λr q1_ hc3=>?_;subst q1_
 refine B0 (z0 hc3) λm bs mp p' q1_ hc4=>?_;subst q1_
 refine k6 ((b9 hc4).imp id b9) λh3 h4 hc5=>?_
 refine a9 (s9 hc5) λe q1_ hc6=>?_;subst q1_
 refine c5 (t6 h1) λk1 k2=>?_
 refine c5 (t6 h3) λk3 k4=>?_
 have hs:∀ env,starEach [e] env=[(false,eval e env)]:=λenv=>z7 (m8 (b9 hc6).1)
 cases q with
 | false=>exact h.elim
 | true=>
  refine cd8 (w7 hT h2) k1 k2 (aE5 (w7 hT h4) k3 ((ha (b9 hc6).2 h).mono λv Y h=>?_) k4 hs) (λenv=>rfl)
  obtain⟨n,rfl,⟨h0,h1⟩,⟨k⟩⟩:=R8 h;exact⟨n,rfl,n.toNat,rfl,rfl,by lia,by lia,k⟩
theorem bH4{a:IE}(hT:TabOK g T)(ha:SE g T d q a):SE g T d q (.sset a):=fun{sc vs x Z Y Q X} hc h=>by
 refine B0 (z0 hc) λn as np p q1_ hc1=>?_;subst q1_
 refine k6 ((b9 hc1).imp id b9) λh1 h2 hc2=>?_
 refine a9 (s9 hc2) λr q1_ hc3=>?_;subst q1_
 refine B0 (z0 hc3) λm bs mp p' q1_ hc4=>?_;subst q1_
 refine k6 ((b9 hc4).imp id b9) λh3 h4 hc5=>?_
 refine a9 (s9 hc5) λe q1_ hc6=>?_;subst q1_
 refine c5 (t6 h1) λk1 k2=>?_
 refine c5 (t6 h3) λk3 k4=>?_
 have hs:∀ env,starEach [e] env=[(false,eval e env)]:=λenv=>z7 (m8 (b9 hc6).1)
 cases q with
 | false=>exact h.elim
 | true=>
  refine bu7 (D0 hT h2) (w7 hT h4) k1 k3 rfl ((ha (b9 hc6).2 h).mono λv Y h=>?_) k2 k4 hs
  obtain⟨b,rfl,l,e,hk,h64,k⟩:=C5 h;exact⟨b,l,rfl,e,hk,h64,k⟩
theorem cb8{n:Bool}{a:IE}{es:IEs}(ha:SE g T d q a)(he:SEs g T d q es):ST g T d q (.inl n a es):=fun{sc vs x Z Y QB X} hc h=>by
 apply af9 hc;intro l o r p hc1;refine a9 (s9 hc1) λo' q1_ hc2=>?_;subst q1_
 refine a9 (s9 hc2) λr' q1_ hc3=>?_;subst q1_
 refine k6 ((b9 hc3).imp id b9) λh1 h2 hc4=>?_
 obtain rfl:=of_decide_eq_true h1;refine a9 (i7 hc4) λxs e hc5=>?_
 refine c6 (ab9 e) λp' q1_=>?_;subst q1_
 have hl:=of_decide_eq_true (b9 hc5).1;refine Tst.drop (aw0 (((ha h2 h).xmono λx Y h=>⟨Y,Sub.refl _,h⟩).mono λv Y h=>ab7 (((he (b9 hc5).2 h).xmono λx Y h=>⟨Y,Sub.refl _,h⟩).mono λl Y ⟨e,h⟩=>⟨u2 (e▸hl),λa hn=>?_⟩)) (by cases n<;>rfl))
 refine a9 (V0 h) λx q1_ h1=>?_;subst q1_
 refine a9 (aB6 h1) λss q1_ h2=>?_;subst q1_
 cases n with
 | true=>exact aK1 (d3 _ _ _) (al0 ⟨Y,Sub.upd hn,h2⟩)
 | false=>exact aI5 (d3 _ _ _) (al0 ⟨Y,Sub.upd hn,h2⟩)
theorem J8{x:Expr}(hp:L4 x=true)(h:Ev g F x Z Y (λv Y=>D4 v Y QB) X):Tst g F x Z Y QB X:=Ev.tst_of (h.mono λv Y h=>H3 h) (λenv w=>bE8 hp)
theorem cd9{x:Expr}{n:Str}(h:t7 x=some n):L4 x=true:=by refine c6 (D1 h) λp q1_=>?_;subst q1_;rfl
theorem ax0{x:Expr}{n}(h:H5 x=some n):L4 x=true:=by refine c6 (aH0 h) λp q1_=>?_;subst q1_;rfl
theorem Z8{x:Expr}{P}(h:w0 x P=true):L4 x=true:=by refine B0 (z0 h) λn as np p q1_ z_=>?_;subst q1_;rfl
theorem t_v{i:Nat}:ST g T d q (.v i):=fun{sc vs x Z Y QB X} hc h=>by
 refine a9 (i7 hc) λn e z_=>?_
 exact J8 (cd9 e) (s_v hc h)
theorem aW6{f:Str}{es:IEs}(hT:TabOK g T)(he:SEs g T d q es):ST g T d q (.call f es):=fun{sc vs x Z Y QB X} hc h=>J8 (Z8 hc) (aI7 hT he hc h)
theorem bD6{b:BI}{es:IEs}(hT:TabOK g T)(he:SEs g T d q es):ST g T d q (.bi b es):=fun{sc vs x Z Y QB X} hc h=>J8 (Z8 hc) (aH5 hT he hc h)
theorem br5{a:IE}{t:TY}(hT:TabOK g T)(ha:SE g T d q a):ST g T d q (.isi a t):=fun{sc vs x Z Y QB X} hc h=>J8 (Z8 hc) (ap3 hT ha hc h)
theorem bp4{a:IE}(hT:TabOK g T)(ha:SE g T d q a):ST g T d q (.isl a):=fun{sc vs x Z Y QB X} hc h=>J8 (Z8 hc) (aA8 hT ha hc h)
theorem aV2{a b:IE}(ha:SE g T d q a)(hb:SE g T d q b):ST g T d q (.itm a b):=fun{sc vs x Z Y QB X} hc h=>by
 refine a9 (i7 hc) λn e z_=>?_
 exact J8 (ax0 e) (aq5 ha hb hc h)
theorem cd4{a:IE}{n:Nat}(ha:SE g T d q a):ST g T d q (.itk a n):=fun{sc vs x Z Y QB X} hc h=>by
 refine a9 (i7 hc) λn e z_=>?_
 exact J8 (ax0 e) (aB2 ha hc h)
theorem ch1:SC g T d q .nil:=fun{sc vs x Z Y Q} hc h=>by
 obtain rfl:=aH.mp hc;exact aZ7 h
theorem cb3{t:IE}(ht:ST g T d q t):SC g T d q (.cons t .nil):=fun{sc vs x Z Y Q} hc h=>by
 cases x with
 | nil=>exact(ac hc).elim
 | cons e l=>
  refine k6 ((b9 hc).imp id b9) λh1 h2 h3=>?_
  obtain rfl:=aH.mp h3;exact bo3 (ht h2 h)
theorem aL4{e:Expr}{Q:List V->(Hp->Prop)->Hp->Prop}(h:Ev g F e Z Y (λv zs=>wIt Q zs v) X)(hf:∀ env x,foldedSetIterable e env x=pure x):Itr g F e Z Y Q X:=
 ⟨λA env s I hh=>wpAny_mono (h A env s I) (λx sv p=>by
  refine p _ ?_;clear p;rintro v zs r I1 st1 hQ;cases v with
  | ref a=>
   obtain rfl:=r.ofRef;obtain⟨L,hY,hQ⟩:=hQ;refine a9 ((I1.sim.objs a _ hY).1) λvs hp rs=>?_
   refine wpAny_pyIter_list hp.isList ?_;exact(λz_ k_=>k_ _ L _ _ zs rfl (bU4 hh (ax:=a)) ⟨_,an _ rfl,rfl,rfl⟩ st1.freshSize I1.sim.fresh (I1.keep Step.push I1.sim.push) st1.push' hQ)
  | tup l=>
   refine l6 r.ofTup λa vs n q1_ ht rs=>?_;subst q1_
   refine wpAny_pyIter_tuple ⟨_,ht,rfl,_,rfl⟩ ?_;exact(λz_ k_=>k_ _ _ _ _ zs rfl (aS1 hh) ⟨⟨_,an _ rfl,rfl,rfl⟩,ag _ ht,rs.mono (Step.push (fr:=inF A) (own:=f2) (Y:=Y)).tups⟩ st1.freshSize I1.sim.fresh (I1.keep Step.push I1.sim.push) st1.push' hQ)
  | str x=>
   refine c6 r.ofStr λt q1_=>?_;subst q1_
   cases q:x.cps.all (· < 128) with
   | true=>exact wpAny_pyIter_ascii q (λz_ k_=>k_ _ _ _ _ zs rfl (bY8 hh) ⟨_,an _ rfl,rfl,rfl⟩ st1.freshSize I1.sim.fresh (I1.keep Step.push I1.sim.push) st1.push' hQ)
   | false=>exact wpAny_pyIter_wide q (λz_ k_=>k_ _ _ _ _ zs rfl (bc3 hh) ⟨_,an _ rfl,rfl,rfl⟩ st1.freshSize I1.sim.fresh (I1.keep Step.push I1.sim.push) st1.push' hQ)
  | _=>exact hQ.elim) λz_ z_ p=>p,hf⟩
theorem i_e{a:IE}(ha:SE g T d q a):SI g T d q (.e a):=fun{sc vs x Z Y Q X} hc h=>aL4 (ha (b9 hc).2 h) λenv v=>aC9 (m8 (b9 hc).1)
theorem Rng.itr{e:Expr}{Q:List V->(Hp->Prop)->Hp->Prop}(h:Rng g F e Z Y (λa b c zs=>c=1/\j4 a/\j4 b/\Q (k8 a 1 (b-a).toNat) (λz_=>True) zs) X)(hf:∀ env x,foldedSetIterable e env x=pure x):Itr g F e Z Y Q X:=by
 refine aT5 (λA env s I=>wpAny_mono (h A env s I) (λx sv p=>?_) λz_ z_ p=>p) hf
 refine p _ ?_;clear p;rintro r a b c t u v Y' h1 h2 h3 h4 ⟨rfl,ha,hb,h5⟩;exact(λz_ k_=>k_ r a b 1 t u v Y' h1 h2 h3 h4 ⟨ap2 ha hb,by rw[aJ9];exact h5⟩)
theorem bc7{a:IE}(hT:TabOK g T)(ha:SE g T d q a):SI g T d q (.r1 a):=fun{sc vs x Z Y Q X} hc h=>by
 obtain⟨n,as,np,p,rfl,hc1⟩:=z0 (x:=x) (P:=λn as=>gl sc n&&(B1 "range" (T.lookup n)&&one as λe=>!star e&&i6 T a sc vs e)) hc
 refine k6 ((b9 hc1).imp id b9) λh1 h2 hc2=>?_
 refine a9 (s9 hc2) λe q1_ hc3=>?_;subst q1_
 refine c5 (t6 h1) λk1 k2=>?_
 refine(aE5 (w7 hT h2) k1 ((ha (b9 hc3).2 h).mono λv Y h=>?_) k2 λenv=>z7 (m8 (b9 hc3).1)).itr λenv x=>rfl
 obtain⟨b,rfl,hb,k⟩:=R8 h;exact⟨b,rfl,rfl,by unfold j4;lia,hb,k⟩
theorem bP7{js:List Nat}{elt:IE}{it:II}{cs:IEs}(he:SE g T d q elt)(hi:SI g T d q it)(hs:SC g T d q cs):SE g T d q (.comp js elt it cs):=fun{sc vs x Z Y Q X} hc h=>by
 apply an6 hc;intro e l scope p hc1;obtain⟨⟨tg,iter,ifs,as⟩,rfl,hc2⟩:=s9 hc1;refine c5 (b9 hc2) λh1 hc3=>?_
 obtain rfl:as=0:=of_decide_eq_true h1;apply Q6 (x:=tg) hc3;intro y py hc4;obtain⟨h2,h3,h4,h5⟩:=(b9 hc4).imp id λh=>(b9 h).imp id b9
 cases q with
 | false=>exact h.elim
 | true=>
  refine aF6 (F:=⟨sc,vs,d,true⟩) js h2 rfl ((hi h4 h).mono λL K Y h=>?_)
  obtain⟨J,hz,h0,ht,hend⟩:=h;exact⟨J,u2 hz,h0,λv l acc Y' hj=>⟨(ht v l acc Y' hj).1,(hs h5 (ht v l acc Y' hj).2).mono λb Y i=>⟨λe=>he h3 (i.1 e),i.2⟩⟩,hend⟩
end
section
variable{g:G}{T:Tab}{F:Blk}{sc:Scope}{vs:List Str}{d:Nat}{q:Bool}{Z:Lo}{Y:Hp}{Q:d6}{X:j3}
theorem Inv.at'{A:Around}{env:Env}{s:Shared}{i:Nat}{x:Str}(I:Inv g F A env Z Y s)(hx:F.vars[i]?=some x):∃ w,Z[i]?=some w:=by
 have h:=(aj.mp hx).1;rw[<- I.loc.len] at h;exact⟨_,ae h⟩
theorem ba6{x:Str}{p' pos:Pos}{e:Expr}{i:Nat}(hx:F.vars[i]?=some x)(h:Ev g F e Z Y (λv zs=>Q .next (Z.set i (some v)) zs) (λx zs=>X x Z zs))
  (hs:∀ env,swapsWith e (some (.Name x p')) pos.line env=pure false):Ex g F (.Assign [.Name x p'] e pos) Z Y Q X:=(λA env s I=>by
 refine wpAny_Assign_Name (wpAny_mono (h A env s I) (λv sv p=>?_) λz_ z_ p=>p.toS) (hs env)
 refine p _ ?_;clear p;rintro V zs r I1 st1 q;refine c6 (I1.at' hx) λw hw=>?_
 exact G6 I1 hx hw r λs2 sw st2=>(λz_ k_=>k_ .next _ zs .next sw ((st1.mono λz_ h=>h.elim).trans st2) q))
theorem bt8{x:Str}{p:Pos}{v:V}{i:Nat}{P:Lo->Prop}(hx:F.vars[i]?=some x)(h:P (Z.set i (some v))):Asg g F (.Name x p) v Z Y P:=
 ⟨λA env s xv QU E I hh r k=>by
  refine c6 (I.at' hx) λw hw=>?_
  exact wpAny_assign_Name (G6 I hx hw r λs' I' st=>k s' _ I' st h),.inl ⟨x,p,rfl⟩⟩
theorem bC9{x:Str}{p:Pos}{es:List Expr}{v:V}{l:List V}{i:Nat}{P:Lo->Prop}(hx:F.vars[i]?=some x)(h:AsgL g F es l (Z.set i (some v)) Y P):AsgL g F (.Name x p::es) (v::l) Z Y P:=
 ⟨λA env s xs QU E I r k=>by
  refine c6 (I.at' hx) λw hw=>?_
  exact(bd3 hx hw h).run A env s xs QU E I r k,λenv=>by
  show((false,assign (.Name x p) env)::assignEach es env).length=_;rw[az,h.len env,az],λenv=>by
  show((false,assign (.Name x p) env)::assignEach es env).findIdx? _=none;rw[dh,h.star env];rfl⟩
theorem K3{i:Nat}{x:Expr}(h:M9 vs i x=true):∃ n p,x=.Name n p/\vs[i]?=some n:=by
 apply Q6 h;intro n p h;exact⟨n,p,rfl,of_decide_eq_true h⟩
theorem ad0{is:List Nat}:∀ {es:List Expr} {l:List V} {Z:Lo} {P:Lo->Prop},K2 vs is es=true->L1 is l Z P->AsgL g ⟨sc,vs,d,q⟩ es l Z Y P:=by
 induction is with
 | nil=>
  intro es l Z P hc h;obtain rfl:=aH.mp hc;cases l with
  | nil=>exact aV1 h
  | cons _ _=>exact h.elim
 | cons i is ih=>
  intro es l Z P hc h;cases es with
  | nil=>exact(ac hc).elim
  | cons e es=>
   cases l with
   | nil=>exact h.elim
   | cons v l=>
    refine j6 (K3 (b9 hc).1) λn p q1_ hx=>?_;subst q1_
    exact bC9 hx (ih (b9 hc).2 h)
theorem aS8{elt iter:Expr}{x y:Str}{px pos p' cpos:Pos}{ifs:List Expr}{scope:Scope}{i:Nat}(js:List Nat)(ok:F9 F scope x js=true)(hq:F.q=true)(hy:F.vars[i]?=some y)
  (h:Itr g F iter Z Y (λL K zs=>∃ J:List V->List V->Hp->Prop,L.length<=sizeLine/\J L [] zs/\
   (∀ v l acc Y',J (v::l) acc Y'->K Y'/\D3 g (C9 F scope x) ifs (some v::x5 Z js) Y' (λb Y2=>(b=true->Ev g (C9 F scope x) elt (some v::x5 Z js) Y2 (λy Y3=>J l (acc++[y]) Y3) noX)/\(b=false->J l acc Y2)))/\
   ∀ acc Y',J [] acc Y'->K Y'/\∀ a,Y' a=none->Q .next (Z.set i (some (.ref a))) (upd Y' a (.lst acc))) (λx zs=>X x Z zs)) :
  Ex g F (.Assign [.Name y p'] (.ListComp elt [⟨.Name x px,iter,ifs,0⟩] scope cpos) pos) Z Y Q X:=(λA env s I=>by
 refine c6 (@aQ0 elt [⟨.Name x px,iter,ifs,0⟩] scope cpos p' y pos.line env) λb hb=>?_
 cases b with
 | false=>
  refine wpAny_Assign_Name (wpAny_mono ((aF6 (Q:=λv zs=>Q .next (Z.set i (some v)) zs) js ok hq h) A env s I) (λv sv p=>?_) λz_ z_ p=>p.toS) hb
  refine p _ ?_;clear p;rintro V zs r I1 st1 q;refine c6 (I1.at' hy) λw hw=>?_
  exact G6 I1 hy hw r λs2 sw st2=>(λz_ k_=>k_ .next _ zs .next sw ((st1.mono λz_ h=>h.elim).trans st2) q)
 | true=>
  rw[exec_Assign_Name_used _ _ _ _ hb];refine wpAny_bind (wpAny_standAt (wpAny_bind ?_));show wpAny _ A (comprehension (.ListComp elt [⟨.Name x px,iter,ifs,0⟩] scope cpos) scope env (firstIterPos [⟨.Name x px,iter,ifs,0⟩] cpos) (newList []) false (eval iter env) (some (assign (.Name y p') env)) >>= λz_=>pure ()) _ _ s
  refine wpAny_bind (ao0 ok hq (λacc Y'=>∀ a,Y' a=none->Q .next (Z.set i (some (.ref a))) (upd Y' a (.lst acc))) h I (λz_ z_ p=>p.toS) λD C acc Y' s' hJ hD I' st' hC hC0 hYC=>?_)
  refine c6 hC λm hm=>?_
  refine c6 (I'.at' hy) λw hw=>?_
  refine wpAny_assign_Name (G6 I' hy hw (.ref D) λs2 sw st2=>?_)
  have hm2:s2.heap.Ns C m:=Ns.kept hm λo e=>by refine a9 (st2.keep C o e hYC (I.notOwn hC0)) λo' e' k=>?_;exact⟨o',e',k.data⟩
  refine⟨m,hm2,λh' hs=>wpAny_pure (wpAny_pure ?_)⟩
  have tu:l8 s2.heap h':=N5 hm2 hs;have st3:Step (inF A) (i9 env) Y (upd Y' D (.lst acc)) s s2:=(st'.mono λz_ h=>h.elim).trans st2
  exact(λz_ k_=>k_ .next _ _ .next (sw.but (tk:=s2.toks) hs.extBut tu hYC (I.notOwn hC0) (I.notBase hC0) (I.notFr hC0)) (st3.but (tk:=s2.toks) hs.extBut hC0) (hJ D hD)))
def SS(g:G)(T:Tab)(d:Nat)(q:Bool)(e:IS):Prop:=∀ {sc vs x Z Y Q X},aE7 T sc vs e x=true->wS g d q e Z Y Q X->Ex g ⟨sc,vs,d,q⟩ x Z Y Q X
def SSs(g:G)(T:Tab)(d:Nat)(q:Bool)(e:ISs):Prop:=∀ {sc vs x Z Y Q X},A0 T sc vs e x=true->wSs g d q e Z Y Q X->Exs g ⟨sc,vs,d,q⟩ x Z Y Q X
theorem bf4{e:IE}(he:SE g T d q e):SS g T d q (.ret e):=fun{sc vs x Z Y Q X} hc h=>by
 apply bX4 hc;intro t p hc1;refine a9 (i7 hc1) λy q1_ hc2=>?_;subst q1_
 exact aV7 (he hc2 h)
theorem bT3{t:IE}{a b:ISs}(ht:ST g T d q t)(ha:SSs g T d q a)(hb:SSs g T d q b):SS g T d q (.iff t a b):=fun{sc vs x Z Y Q X} hc h=>by
 apply bj3 hc;intro t u w p hc1;refine k6 ((b9 hc1).imp id b9) λh1 h2 h3=>?_
 exact bt5 ((ht h1 h).mono λb Y i=>⟨λe=>ha h2 (i.1 e),λe=>hb h3 (i.2 e)⟩)
theorem bw5{i:Nat}{e:IE}(hn:ao8 e=false)(he:SE g T d q e):SS g T d q (.asg i e):=fun{sc vs x Z Y Q X} hc h=>by
 apply P0 hc;intro t u w hc1;refine a9 (s9 hc1) λn e2 hc2=>?_
 refine k6 ((b9 hc2).imp id b9) λh1 h2 h3=>?_
 refine j6 (K3 h1) λn p q1_ hx=>?_;subst q1_
 obtain rfl:t=[.Name n p]:=e2;rw[hn] at h2;exact ba6 (F:=⟨sc,vs,d,q⟩) hx (he h3 h) λenv=>at0 (m8 h2)
theorem ce4{i:Nat}{js:List Nat}{elt:IE}{it:II}{cs:IEs}(he:SE g T d q elt)(hi:SI g T d q it)(hs:SC g T d q cs):SS g T d q (.asg i (.comp js elt it cs)):=fun{sc vs x Z Y Q X} hc h=>by
 apply P0 hc;intro t u w hc1;refine a9 (s9 hc1) λn e2 hc2=>?_
 refine k6 ((b9 hc2).imp id b9) λh1 h2 h3=>?_
 refine j6 (K3 h1) λn p q1_ hx=>?_;subst q1_
 obtain rfl:t=[.Name n p]:=e2;apply an6 (x:=u) h3;intro e l scope p hc3;obtain⟨⟨tg,iter,ifs,as⟩,e3,hc4⟩:=s9 hc3;obtain rfl:l=[_]:=e3;refine c5 (b9 hc4) λh1 hc5=>?_
 obtain rfl:as=0:=of_decide_eq_true h1;apply Q6 (x:=tg) hc5;intro y py hc6;obtain⟨h2,h3,h4,h5⟩:=(b9 hc6).imp id λh=>(b9 h).imp id b9
 cases q with
 | false=>exact h.elim
 | true=>
  refine aS8 (F:=⟨sc,vs,d,true⟩) js h2 rfl hx ((hi h4 h).mono λL K Y h=>?_)
  obtain⟨J,hz,h0,ht,hend⟩:=h;exact⟨J,u2 hz,h0,λv l acc Y' hj=>⟨(ht v l acc Y' hj).1,(hs h5 (ht v l acc Y' hj).2).mono λb Y i=>⟨λe=>he h3 (i.1 e),i.2⟩⟩,hend⟩
theorem bK7{o i e:IE}(ho:SE g T d q o)(hi:SE g T d q i)(he:SE g T d q e):SS g T d q (.seti o i e):=fun{sc vs x Z Y Q X} hc h=>by
 apply P0 hc;intro t u w hc1;refine a9 (s9 hc1) λn e2 hc2=>?_
 refine c5 (b9 hc2) λh1 hc3=>?_
 obtain rfl:t=[n]:=e2;apply O9 (x:=n) hc3;intro a b p hc4;refine aW2 ((he h1 h).mono λv Y h=>(ho (b9 hc4).1 h).mono λa Y h=>(hi (b9 hc4).2 h).mono λk Y h=>?_) λenv=>bE0
 refine a9 (C5 h) λb q1_ h=>?_;subst q1_
 exact bq7 h
theorem aS5{e:IE}(he:SE g T d q e):SS g T d q (.expr e):=fun{sc vs x Z Y Q X} hc h=>by
 apply ca0 hc;intro y p hc1;exact bs8 (he (b9 hc1).2 h) λenv=>at0 (m8 (b9 hc1).1)
theorem bq3{t:IE}{body:ISs}(ht:ST g T d q t)(hb:SSs g T d q body):SS g T d q (.whil t body):=fun{sc vs x Z Y Q X} hc h=>by
 apply bB2 hc;intro t u w p hc1;refine k6 ((b9 hc1).imp id b9) λh1 h2 h3=>?_
 obtain rfl:w=[]:=aH.mp h1;obtain⟨J,n,h0,hturn⟩:=h;exact bu0 J h0 λn Z' Y' hj=>(ht h2 (hturn n Z' Y' hj)).mono λb Y i=>⟨λe=>hb h3 (i.1 e),i.2⟩
theorem bz8{x y:Str}{px py tpos p pos:Pos}{k k' i j:Nat}{a b:Expr}(hi:vs[i]?=some x)(hj:vs[j]?=some y)(hx:sc.names.lookup x=some .local)(hy:sc.names.lookup y=some .local)(hl:(py.line==px.line)=true)(hxy:([x,y].eraseDups.length != 2)=false)
  (hs:([a,b].any ak3)=false) (hf:[a,b].all (foldedForSure 8)=false) (hc:[a,b].all (constantsAlone 8)=false)
  (h:Ev g ⟨sc,vs,d,true⟩ (.Tuple [a,b] k' p) Z Y (λv zs=>∃ u w,v=.tup [u,w]/\Q .next ((Z.set j (some w)).set i (some u)) zs) (λx zs=>X x Z zs)) :
  Ex g ⟨sc,vs,d,true⟩ (.Assign [.Tuple [.Name x px,.Name y py] k tpos] (.Tuple [a,b] k' p) pos) Z Y Q X:=(λA env s I=>by
 have hkind:∀ z,env.kindOf z=sc.names.lookup z:=λz=>by
  show env.scope.names.lookup z=_;rw[I.scope]
 have hbk:env.blockKind=.function:=by
  unfold Env.blockKind;rw[I.fn];rfl
 refine PyProof.Rows.Assign_Tuple_swapped (names:=[x,y]) (wpAny_mono (h A env s I) (λv sv p=>?_) λz_ z_ p=>p.toS) rfl (bp6 hbk (by rw[hkind];exact hx) (by rw[hkind];exact hy) hl hxy hs hf hc)
 refine p _ ?_;clear p;rintro V zs r I1 st1 ⟨u,w,rfl,hQ⟩;refine l6 r.ofTup λt us n q1_ ht rl=>?_;subst q1_
 have e:us.size=2:=by rw[<- ao,rl.length];rfl
 have hun:∀ (Q':List Value->Shared->Prop) (E:Value->Shared->Prop),(∀ h',Heap.ExtBut sv.heap.objs.size sv.heap h'->Q' us.toList {sv with heap:=h'})->wpAny (model g.prog g.w) A (unpackItems (.ref t) 2 none) Q' E sv:=λQ' E hq=>by
  have:=unpackItems_tuple (E:=E) (prog:=g.prog) (w:=g.w) (I1.quiet rfl) (t:=t) (items:=us) ⟨_,ht,rfl,_,rfl⟩ hq;rw[e] at this;exact this
 refine hun _ _ λh' hx'=>?_
 have hk:∀ b o,sv.heap.get? b=some o->h'.get? b=some o:=λb o eb=>hx' b o (bb (aE eb)) eb
 have st2:∀ own,Step (inF A) own zs zs sv {sv with heap:=h'}:=λown=>Step.grow (tk:=sv.toks) hk
 have sw:=I1.keep (st2 f2) (I1.sim.grow hk);have rl':=rl.mono (st2 f2).tups;generalize us.toList=ul at rl' ⊢;refine g7 rl'.two λv1 v2 q1_ r1 r2=>?_;subst q1_
 refine c6 (sw.at' hj) λw1 e1=>?_
 show wpAny _ A (do holding _ (bindName env y v2);assignInOrder [bindName env x] [v1]) _ _ _
 refine wpAny_bind (wpAny_holding (en (G6 sw hj e1 r2 λs3 I3 st3=>?_)))
 refine c6 (I3.at' hi) λw2 e2=>?_
 show wpAny _ A (do holding _ (bindName env x v1);assignInOrder [] []) _ _ _
 refine wpAny_bind (wpAny_holding (en (G6 I3 hi e2 (r1.mono st3.tups) λs4 I4 st4=>?_)))
 exact wpAny_pure (λz_ k_=>k_ .next _ zs .next I4 ((((st1.mono λz_ h=>h.elim).trans (st2 _)).trans st3).trans st4) hQ))
theorem bC7{a b:Expr}{k:Nat}{p:Pos}{F:Blk}{Q:VP}{X:XP}(ha:star a=false)(hb:star b=false)(h:Ev g F a Z Y (λu Y=>Ev g F b Z Y (λw Y=>Q (.tup [u,w]) Y) X) X):Ev g F (.Tuple [a,b] k p) Z Y Q X:=
 an3 (Q1 (h.mono λu Y h=>Q1 (h.mono λw Y h=>U7 ⟨(by decide:2<=sizeLine),h⟩) (λz_ z_=>rfl) λenv=>z7 hb) (λenv p=>by rw[z7 hb];rfl) λenv=>z7 ha)
theorem bj4{i j:Nat}{a b:IE}(ha:SE g T d q a)(hb:SE g T d q b):SS g T d q (.swap i j a b):=fun{sc vs x Z Y Q X} hc h=>by
 apply P0 hc;intro t u w hc1;refine a9 (s9 hc1) λn e2 hc2=>?_
 obtain rfl:t=[n]:=e2;apply af4 (x:=n) hc2;intro l k tp hc3;refine j6 (A8 hc3) λm n q1_ hc4=>?_;subst q1_
 obtain⟨h1,h2,h3,h4,h5,h6,hc5⟩:=ar6 hc4;refine j6 (K3 h1) λmx mp q1_ hm=>?_;subst q1_
 refine j6 (K3 h2) λnx np q1_ hn=>?_;subst q1_
 refine a9 (i7 hc5) λl e4 hc6=>?_
 refine p9 (S8 e4) λk' tp' e5=>?_
 obtain rfl:u=_:=e5;refine j6 (A8 hc6) λea eb q1_ hc7=>?_;subst q1_
 obtain⟨h7,h8,h9,h10,h11,h12,h13⟩:=ar6 hc7;cases q with
 | false=>exact h.elim
 | true=>
  exact bz8 hm hn (of_decide_eq_true h4) (of_decide_eq_true h5) h3 (m8 h6) (m8 h7) (m8 h8) (m8 h9) (bC7 (m8 h10) (m8 h11) ((ha h12 h).mono λu Y h=>(hb h13 h).mono λw Y h=>⟨u,w,rfl,h⟩))
theorem Itr.xmono{e:Expr}{Q:List V->(Hp->Prop)->Hp->Prop}{X X':XP}(h:Itr g F e Z Y Q X)(k:∀ v Y,X v Y->X' v Y):Itr g F e Z Y Q X':=⟨λA env s I hh=>
 wpAny_mono (h.run A env s I hh) (λx sv p=>wpAny_mono p (λz_ z_ p=>p) λz_ z_ p=>by refine p _ ?_;clear p;rintro x Y' a b c e;exact(λz_ k_=>k_ x Y' a b c (k _ _ e))) (λz_ z_ p=>by refine p _ ?_;clear p;rintro x Y' a b c e;exact(λz_ k_=>k_ x Y' a b c (k _ _ e))),h.fold⟩
inductive LoopX(Z:Lo)(turn:V->Lo->Hp->d6->Prop)(Q:d6):List V->(Hp->Prop)->Hp->Prop
 | stay {L:List V} {K:Hp->Prop} {Y:Hp} (h:Loop L K Z Y turn Q):LoopX Z turn Q L K Y
 | tmp {L:List V} {Y:Hp} {a:Addr} (hn:Y a=none) (h:Loop L (λz_=>True) Z Y turn Q):LoopX Z turn Q L (λY=>Y a=some (.lst L)) (upd Y a (.lst L))
theorem bP2{Q Q':d6}{J:List V->Lo->Hp->Prop}{l:List V}(k:∀ f Z Y,Q f Z Y->Q' f Z Y){f:Flo}{Z:Lo}{Y:Hp}(h:H0 Q J l f Z Y):H0 Q' J l f Z Y:=by
 cases f with
 | next=>exact h
 | cont=>exact h
 | brk=>exact k _ _ _ h
 | ret v=>exact k _ _ _ h
theorem at2{t iter:Expr}{body:List Stmt}{pos:Pos}{turn:V->Lo->Hp->d6->Prop}(hq:F.q=true)(hb:∀ v Z' Y' Q',turn v Z' Y' Q'->Asg g F t v Z' Y' (λZ''=>Exs g F body Z'' Y' Q' X))
  (h:Itr g F iter Z Y (LoopX Z turn Q) (λx zs=>X x Z zs)):Ex g F (.For t iter body [] pos) Z Y Q X:=by
 refine Ex.xdrop (aQ9 hq ((h.xmono λx Y h=>⟨Y,Sub.refl _,h⟩).mono λL K zs p=>?_))
 cases p with
 | stay p=>
  obtain⟨J,h0,ht,he⟩:=p;refine⟨J,h0,λv l Z' Y' hj=>⟨(ht v l Z' Y' hj).1,(hb _ _ _ _ (ht v l Z' Y' hj).2).mono λZ'' ex=>?_⟩,λZ' Y' hj=>⟨(he Z' Y' hj).1,Y',Sub.refl _,(he Z' Y' hj).2⟩⟩
  exact(ex.mono λf Z Y h=>bP2 (λf Z Y h=>⟨Y,Sub.refl _,h⟩) h).xmono λf Z Y h=>⟨Y,Sub.refl _,h⟩
 | @tmp Y2 b hn p=>
  obtain⟨J,h0,ht,he⟩:=p;refine⟨λl Z' Y2=>∃ Y',Y2=upd Y' b (.lst L)/\Y' b=none/\J l Z' Y',⟨Y2,rfl,hn,h0⟩,?_,?_⟩
  ·rintro v l Z' _ hh_;refine i8 hh_ λY' q1_ hn hj=>?_;clear hh_;subst q1_
   refine⟨d3 _ _ _,((hb _ _ _ _ (ht v l Z' Y' hj).2).frame hn).mono λZ'' ex=>?_⟩
   refine((ex.frame hn).mono ?_).xmono ?_
   ·rintro f Z₃ _ hh_;refine i8 hh_ λY3 q1_ hn3 hq=>?_;clear hh_;subst q1_
    cases f with
    | next=>exact⟨Y3,rfl,hn3,hq⟩
    | cont=>exact⟨Y3,rfl,hn3,hq⟩
    | brk=>exact⟨Y3,Sub.upd hn3,hq⟩
    | ret v=>exact⟨Y3,Sub.upd hn3,hq⟩
   ·rintro f Z₃ _ hh_;refine i8 hh_ λY3 q1_ hn3 hq=>?_;clear hh_;subst q1_
    exact⟨Y3,Sub.upd hn3,hq⟩
  ·rintro Z' _ hh_;refine i8 hh_ λY' q1_ hn hj=>?_;clear hh_;subst q1_
   exact⟨d3 _ _ _,Y',Sub.upd hn,(he _ _ hj).2⟩
theorem bF0{Z:Lo}{turn:V->Lo->Hp->d6->Prop}{Q:d6}{Y:Hp}{v:V}(h:wLt Z turn Q Y v):wIt (LoopX Z turn Q) Y v:=by
 cases v with
 | tup L=>exact .stay h
 | str x=>exact .stay h
 | ref a=>cases h with
  | held l e k=>exact⟨l,e,.stay k⟩
  | tmp hn k=>exact⟨_,d3 _ _ _,.tmp hn k⟩
 | _=>exact h.elim
theorem as4{it:II}{turn:V->Lo->Hp->d6->Prop}{x:Expr}(hE:∀ a,it=.e a->SE g T d true a)(hI:SI g T d true it)(hc:R3 T it sc vs x=true)(h:ah8 g d it Z Y turn Q (λx Y=>X x Z Y)):Itr g ⟨sc,vs,d,true⟩ x Z Y (LoopX Z turn Q) (λx Y=>X x Z Y):=by
 cases it with
 | e a=>exact aL4 ((hE a rfl (b9 hc).2 h).mono λv Y h=>bF0 h) λenv v=>aC9 (m8 (b9 hc).1)
 | r1 a=>exact(hI hc (show wI g d true (.r1 a) Z Y (λL K Y=>Loop L K Z Y turn Q) (λx Y=>X x Z Y) from h)).mono λL K Y h=>.stay h
theorem bs7{i:Nat}{it:II}{body:ISs}(hE:∀ a,it=.e a->SE g T d q a)(hI:SI g T d q it)(hb:SSs g T d q body):SS g T d q (.loop i it body):=fun{sc vs x Z Y Q X} hc h=>by
 apply aa9 hc;intro t u b w p hc1;obtain⟨h1,h2,h3,h4⟩:=(b9 hc1).imp id λh=>(b9 h).imp id b9
 obtain rfl:w=[]:=aH.mp h1;refine j6 (K3 h2) λn p' e2 hx=>?_
 obtain rfl:t=_:=e2;cases q with
 | false=>exact h.elim
 | true=>exact at2 (F:=⟨sc,vs,d,true⟩) rfl (λv Z' Y' Q' h=>bt8 (F:=⟨sc,vs,d,true⟩) hx (hb h4 h)) (as4 hE hI h3 h)
theorem bv7{is:List Nat}{it:II}{body:ISs}(hE:∀ a,it=.e a->SE g T d q a)(hI:SI g T d q it)(hb:SSs g T d q body):SS g T d q (.loops is it body):=fun{sc vs x Z Y Q X} hc h=>by
 apply aa9 hc;intro t u b w p hc1;obtain⟨h1,h2,h3,hc2⟩:=(b9 hc1).imp id λh=>(b9 h).imp id b9
 obtain rfl:w=[]:=aH.mp h1;refine a9 (i7 hc2) λl e2 hc3=>?_
 refine p9 (S8 e2) λk p' e3=>?_
 obtain rfl:t=_:=e3;cases q with
 | false=>exact h.elim
 | true=>
  refine at2 (F:=⟨sc,vs,d,true⟩) rfl (λv Z' Y' Q' h=>?_) (as4 hE hI h2 h)
  refine a9 (aj7 h) λl' q1_ h=>?_;subst q1_
  exact ah4 (ad0 hc3 h) |>.mono λZ h=>hb h3 h
theorem aP9{is:List Nat}{body:ISs}{es:List Expr}{k:Nat}{tp:Pos}{b:List Stmt}(hn:K2 vs is es=true)(hb:∀ {Z Y Q},wSs g d true body Z Y Q X->Exs g ⟨sc,vs,d,true⟩ b Z Y Q X){l:List V}
  (h:duo (λx y=>z9 (λa=>S9 (λb=>LoopZ a b Z Y (λv Z Y Q=>L1 is v Z λZ=>wSs g d true body Z Y Q X) Q) y) x) l):aM6 g ⟨sc,vs,d,true⟩ es k tp b Q X Z l Y:=by
 refine j6 (av5 h) λx y q1_ h=>?_;subst q1_
 refine a9 (C5 h) λa q1_ h=>?_;subst q1_
 refine a9 (aj7 h) λm q1_ h=>?_;subst q1_
 obtain⟨l,ha,hb',J,h0,ht,hend⟩:=h;exact(λz_ k_=>k_ a l m rfl ha hb' J h0 (λi x y Z' Y' e1 e2 hj=>(ht i x y Z' Y' e1 e2 hj).imp id λw=>(ah4 (ad0 hn w)).mono λZ h=>hb h) hend)
theorem bD5{is:List Nat}{es:IEs}{body:ISs}(hT:TabOK g T)(he:SEs g T d q es)(hb:SSs g T d q body):SS g T d q (.loopz is es body):=fun{sc vs x Z Y Q X} hc h=>by
 apply aa9 hc;intro t u b w p hc1;obtain⟨h1,hbd,h3,hc2⟩:=(b9 hc1).imp id λh=>(b9 h).imp id b9
 cases q with
 | false=>exact h.elim
 | true=>
  obtain rfl:w=[]:=aH.mp h1;apply af4 (x:=t) h3;intro l k p' hc3;apply bj8 (x:=u) hc2;intro n as np cp hc4;refine k6 ((b9 hc4).imp id b9) λk1 k2 k3=>?_
  apply be0 (l:=as) k3;intro ea eb k4;refine bd1 (F:=⟨sc,vs,d,true⟩) rfl (t6 k1).1 (w7 hT k2).1 (w7 hT k2).2 (t6 k1).2 ((he k4 h).mono λl Y h=>?_)
  exact aP9 hc3 (λw=>hb hbd w) h.2
theorem bi1{is:List Nat}{i:Nat}:SS g T d q (.unp is i):=fun{sc vs x Z Y Q X} hc h=>by
 apply P0 hc;intro t e p hc1;refine a9 (s9 hc1) λn e1 hc2=>?_
 obtain rfl:t=[n]:=e1;refine a9 (i7 hc2) λl e2 hc3=>?_
 refine p9 (S8 e2) λk p' q1_=>?_;subst q1_
 refine c5 (b9 hc3) λh1 hc4=>?_
 refine a9 (i7 hc4) λm e3 hc5=>?_
 refine c6 (D1 e3) λp2 e4=>?_
 obtain rfl:e=_:=e4;cases q with
 | false=>exact h.elim
 | true=>
  refine a9 (aM4 h) λv ev hk=>?_
  refine a9 (aj7 hk) λl' q1_ hk=>?_;subst q1_
  exact aQ8 (F:=⟨sc,vs,d,true⟩) rfl (aN6 (of_decide_eq_true (b9 hc5).1) ev (ah4 (ad0 h1 hk)) (m8 (b9 hc5).2)) (λenv=>rfl) (λenv=>rfl)
theorem aU4:SSs g T d q .nil:=fun{sc vs x Z Y Q X} hc h=>by
 obtain rfl:=aH.mp hc;exact bS4 h
theorem Ex.mono'{s:Stmt}{Q':d6}(h:Ex g F s Z Y Q X)(k:∀ f Z Y,Q f Z Y->Q' f Z Y):Ex g F s Z Y Q' X:=(λA env s I=>
 wpAny_mono (h A env s I) (λz_ z_ p=>by refine p _ ?_;clear p;rintro V Z' Y' r i y q;exact(λz_ k_=>k_ V Z' Y' r i y (k _ _ _ q))) λz_ z_ p=>p)
theorem ca1{s:IS}{ss:ISs}(hs:SS g T d q s)(hss:SSs g T d q ss):SSs g T d q (.cons s ss):=fun{sc vs x Z Y Q X} hc h=>by
 cases x with
 | nil=>exact(ac hc).elim
 | cons e l=>
  refine ci3 ((hs (b9 hc).1 h).mono' λf Z Y h=>?_)
  cases f with
  | next=>exact hss (b9 hc).2 h
  | brk=>exact h
  | cont=>exact h
  | ret v=>exact h
theorem bC1{ss:ISs}(hss:SSs g T d q ss):SSs g T d q (.stop ss):=fun{sc vs x Z Y Q X} hc h=>by obtain⟨h⟩:=h;exact hss hc h
theorem bG9{ss:ISs}(hss:SSs g T d q ss):SSs g T d q (.drop ss):=fun{sc vs x Z Y Q X} hc h=>by obtain⟨k,h⟩:=h;exact(hss hc h).sub k
def SH(g:G)(T:Tab)(d:Nat)(q:Bool)(e:IHs):Prop:=∀ {sc vs x l Z Y Q X},Z.length=vs.length->ac8 T sc vs e l=true->wH g d e x Z Y Q X->Hnd g ⟨sc,vs,d,q⟩ l x Z Y Q X
theorem aU9{y:Str}{es:IEs}(hT:TabOK g T)(he:SEs g T d q es):SS g T d q (.rais y es):=fun{sc vs x Z Y Q X} hc h=>by
 apply aU5 hc;intro a b p hc1;refine c5 (b9 hc1) λh0 hc2=>?_
 obtain rfl:b=none:=bl.mp h0;refine a9 (i7 hc2) λc e1 hc3=>?_
 obtain rfl:a=some c:=e1;refine B0 (z0 hc3) λn as np p' e2 hc4=>?_
 obtain rfl:c=_:=e2;obtain⟨h1,h2,h3,h4,h5⟩:=(b9 hc4).imp id λh=>(b9 h).imp id λh=>(b9 h).imp id b9
 obtain rfl:n=y:=of_decide_eq_true h1;refine j6 (ar3 hT h3) λC bm z_ hx=>?_
 refine c5 (t6 h2) λk1 k2=>?_
 have hl:as.length<20:=of_decide_eq_true h4;cases q with
 | false=>exact h.elim
 | true=>exact ci1 hx k1 rfl k2 ((he h5 h).mono λl Y h=>⟨u2 (by have:=h.1;lia),h.2⟩)
theorem cd6:SH g T d q .nil:=fun{sc vs x l Z Y Q X} _ hc h=>by
 obtain rfl:=aH.mp hc;exact bF9 h
theorem bR7{Z:Lo}{vs:List Str}(h:Z.length=vs.length):(Z.map λz_=>none)=List.replicate vs.length (none:Option V):=by rw[<- h];exact List.map_const' ..
theorem bc6{y:Str}{ys ns:List Str}{n:Option Nat}{suite:ISs}{rest:IHs}(hT:TabOK g T)(hs:SSs g T d false suite)(hr:SH g T d q rest):SH g T d q (.cons y ys ns n suite rest):=fun{sc vs x l Z Y Q X} hl hc h=>by
 cases l with
 | nil=>exact(ac hc).elim
 | cons hd l=>
  obtain⟨t,nm,b,p⟩:=hd;obtain⟨hc1,h2,h3,h4,h5⟩:=(b9 hc).imp id λh=>(b9 h).imp id λh=>(b9 h).imp id b9
  refine a9 (i7 hc1) λe e1 hc2=>?_
  obtain rfl:t=some e:=e1;refine a9 (i7 hc2) λm e2 hc3=>?_
  refine c6 (D1 e2) λnp q1_=>?_;subst q1_
  obtain⟨h6,h7,h8,h9⟩:=(b9 hc3).imp id λh=>(b9 h).imp id b9
  refine c5 (t6 h7) λk1 k2=>?_
  cases b with
  | nil=>exact(ac h3).elim
  | cons b0 b=>
   rcases bq6 h h9 with ⟨k,w⟩ | ⟨k,w⟩
   ·cases Ya5 hT k with
    | own C bm C' bm' hx hy e0 hb=>
     cases n with
     | none=>cases nm with
      | none=>exact aP1 (F:=⟨sc,vs,d,q⟩) hx hy k1 k2 hb (hs h4 w)
      | some _=>exact(ac h2).elim
     | some i=>cases nm with
      | none=>exact(ac h2).elim
      | some z=>
       have hi:vs[i]?=some z:=of_decide_eq_true (b9 h2).1;have hlt:=(aj.mp hi).1;obtain⟨w⟩:=w;refine bD0 (F:=⟨sc,vs,d,q⟩) hx hy k1 k2 hb hi (ae (hl▸hlt)) (of_decide_eq_true (b9 h2).2) λa ha=>(hs h4 (w a ha)).mono λf Z' Y' r=>?_
       rw[bR7 hl] at r;exact r
    | ty C bm hx e0 hb e1=>rw[e0] at h8;exact tf h8
   ·cases Ya5 hT k with
    | own C bm C' bm' hx hy e0 hb=>exact cc9 (F:=⟨sc,vs,d,q⟩) hx hy k1 k2 hb (hr hl h5 w)
    | ty C bm hx e0 hb e1=>cases e1
theorem bi3{hs:List ExceptHandler}{x:Str}(h:Z.length=F.vars.length->Hnd g F hs x Z Y Q X):Hnd g F hs x Z Y Q X:=(λA env s sx sy e I st f=>(h I.loc.len) A env s sx sy e I st f)
theorem bg5{b:ISs}{hs:IHs}(hb:SSs g T d q b)(hh:SH g T d q hs):SS g T d q (.tri b hs):=fun{sc vs x Z Y Q X} hc h=>by
 apply bK4 hc;intro bd l oe fb p hc1;obtain⟨h1,h2,h3,h4,h5⟩:=(b9 hc1).imp id λh=>(b9 h).imp id λh=>(b9 h).imp id b9
 obtain rfl:oe=[]:=aH.mp h1;obtain rfl:fb=[]:=aH.mp h2;cases l with
 | nil=>exact(ac h3).elim
 | cons h₀ l=>exact bv6 ((hb h4 h).xmono λx Z Y w=>bi3 λhl=>hh hl h5 w)
theorem be7:SSs g T d q .any:=fun{sc vs x Z Y Q X} hc h=>h.elim
end
section
variable{g:G}{T:Tab}{d:Nat}{q:Bool}
mutual
theorem sE(hT:TabOK g T):(e:IE)->SE g T d q e
 | .k v=>s_k hT
 | .v i=>s_v
 | .bin op a b=>br7 (@sE hT a) (@sE hT b)
 | .cmp op a b=>bo9 (@sE hT a) (@sE hT b)
 | .chain o p a b c=>cb2 (@sE hT a) (@sE hT b) (@sE hT c)
 | .not a=>bM1 (@sE hT a)
 | .neg a=>ca2 (@sE hT a)
 | .and a b=>bz9 (@sE hT a) (@sE hT b)
 | .or a b=>bk2 (@sE hT a) (@sE hT b)
 | .tup es=>bR4 (@sEs hT es)
 | .lst es=>bc0 (@sEs hT es)
 | .itm a b=>aq5 (@sE hT a) (@sE hT b)
 | .itk a n=>aB2 (@sE hT a)
 | .pick es i=>bO2 (@sEs hT es) (@sE hT i)
 | .slc a lo hi=>bO6 (@sE hT a) (@sE hT lo) (@sE hT hi)
 | .call f es=>aI7 hT (@sEs hT es)
 | .bi b es=>aH5 hT (@sEs hT es)
 | .isi a t=>ap3 hT (@sE hT a)
 | .meth m o es=>cj0 (@sE hT o) (@sEs hT es)
 | .get D a=>aX8 hT (@sE hT a)
 | .lrng a=>ci7 hT (@sE hT a)
 | .sset a=>bH4 hT (@sE hT a)
 | .inl n a es=>λz_ h=>h.elim
 | .comp js elt it cs=>bP7 (@sE hT elt) (@sI hT it) (@sC hT cs)
 | .pw n v=>be1
 | .dic0 b=>bZ2
 | .dic1 _ a b=>cd0 (@sE hT a) (@sE hT b)
 | .isx a _ _ _=>bY5 hT (@sE hT a)
 | .dg2 a k z=>bA8 (@sE hT a) (@sE hT k) (@sE hT z)
 | .isl a=>aA8 hT (@sE hT a)
 | .dik ks es=>bd9 (@sEk hT es)
theorem sEs(hT:TabOK g T):(e:IEs)->SEs g T d q e
 | .nil=>by7
 | .cons e es=>bG4 (@sE hT e) (@sEs hT es)
theorem sEk(hT:TabOK g T):(e:IEs)->SEk g T d q e
 | .nil=>cj3
 | .cons e es=>cc4 (@sE hT e) (@sEk hT es)
theorem sI(hT:TabOK g T):(e:II)->SI g T d q e
 | .e a=>i_e (@sE hT a)
 | .r1 a=>bc7 hT (@sE hT a)
theorem sT(hT:TabOK g T):(e:IE)->ST g T d q e
 | .cmp op a b=>be9 (@sE hT a) (@sE hT b)
 | .chain o p a b c=>aO7 (@sE hT a) (@sE hT b) (@sE hT c)
 | .not a=>bw0 (@sT hT a)
 | .and a b=>bQ7 (@sT hT a) (@sT hT b)
 | .or a b=>aU1 (@sT hT a) (@sT hT b)
 | .v i=>t_v
 | .call f es=>aW6 hT (@sEs hT es)
 | .bi b es=>bD6 hT (@sEs hT es)
 | .isi a t=>br5 hT (@sE hT a)
 | .isl a=>bp4 hT (@sE hT a)
 | .itm a b=>aV2 (@sE hT a) (@sE hT b)
 | .itk a n=>cd4 (@sE hT a)
 | .inl n a es=>cb8 (@sE hT a) (@sEs hT es)
 | .k _=>λz_ h=>h.elim
 | .bin _ _ _=>λz_ h=>h.elim
 | .neg _=>λz_ h=>h.elim
 | .tup _=>λz_ h=>h.elim
 | .lst _=>λz_ h=>h.elim
 | .pick _ _=>λz_ h=>h.elim
 | .slc _ _ _=>λz_ h=>h.elim
 | .meth _ _ _=>λz_ h=>h.elim
 | .get _ _=>λz_ h=>h.elim
 | .lrng _=>λz_ h=>h.elim
 | .sset _=>λz_ h=>h.elim
 | .comp _ _ _ _=>λz_ h=>h.elim
 | .pw _ _=>λz_ h=>h.elim
 | .dic0 _=>λz_ h=>h.elim
 | .dic1 _ _ _=>λz_ h=>h.elim
 | .isx _ _ _ _=>λz_ h=>h.elim
 | .dg2 _ _ _=>λz_ h=>h.elim
 | .dik _ _=>λz_ h=>h.elim
theorem sC(hT:TabOK g T):(e:IEs)->SC g T d q e
 | .nil=>ch1
 | .cons t .nil=>cb3 (@sT hT t)
 | .cons _ (.cons _ _)=>λz_ h=>h.elim
end
theorem sA(hT:TabOK g T)(i:Nat)(e:IE):SS g T d q (.asg i e):=by
 cases e with
 | comp js elt it cs=>exact ce4 (@sE _ _ _ _ hT elt) (@sI _ _ _ _ hT it) (@sC _ _ _ _ hT cs)
 | _=>exact bw5 rfl (@sE _ _ _ _ hT _)
mutual
theorem sS(hT:TabOK g T){q:Bool}:(e:IS)->SS g T d q e
 | .ret e=>bf4 (@sE _ _ _ _ hT e)
 | .iff t a b=>bT3 (@sT _ _ _ _ hT t) (@sSs hT _ a) (@sSs hT _ b)
 | .asg i e=>sA hT i e
 | .seti o i e=>bK7 (@sE _ _ _ _ hT o) (@sE _ _ _ _ hT i) (@sE _ _ _ _ hT e)
 | .swap i j a b=>bj4 (@sE _ _ _ _ hT a) (@sE _ _ _ _ hT b)
 | .unp is i=>bi1
 | .expr e=>aS5 (@sE _ _ _ _ hT e)
 | .brk=>λhc h=>by refine c6 (bM6 hc) λp q1_=>?_;subst q1_;exact aW0 h
 | .loop i it body=>bs7 (λa z_=>@sE _ _ _ _ hT a) (@sI _ _ _ _ hT it) (@sSs hT _ body)
 | .loops is it body=>bv7 (λa z_=>@sE _ _ _ _ hT a) (@sI _ _ _ _ hT it) (@sSs hT _ body)
 | .loopz is es body=>bD5 hT (@sEs _ _ _ _ hT es) (@sSs hT _ body)
 | .whil t body=>bq3 (@sT _ _ _ _ hT t) (@sSs hT _ body)
 | .rais x es=>aU9 hT (@sEs _ _ _ _ hT es)
 | .tri b hs=>bg5 (@sSs hT _ b) (@sH hT _ hs)
theorem sSs(hT:TabOK g T){q:Bool}:(e:ISs)->SSs g T d q e
 | .nil=>aU4
 | .cons s ss=>ca1 (@sS hT _ s) (@sSs hT _ ss)
 | .stop ss=>bC1 (@sSs hT _ ss)
 | .drop ss=>bG9 (@sSs hT _ ss)
 | .any=>be7
theorem sH(hT:TabOK g T){q:Bool}:(e:IHs)->SH g T d q e
 | .nil=>cd6
 | .cons y ys ns n suite rest=>bc6 hT (@sSs hT _ suite) (@sH hT _ rest)
end
theorem aX4{f:Str}{k:Nat}{ir:ISs}{vs:List Str}{as:List V}{Z:Lo}{Y:Hp}{Q:VP}{X:XP}(hT:TabOK g T)(hl:T.lookup f=some (.fn k))(hc:au3 T (e9 g.prog k) vs ir=true)(ha:(e9 g.prog k).params.args.length=as.length)(hb:Bnd f (e9 g.prog k) as.length)(hn:as.map some++List.replicate (vs.length-as.length) none=Z)
  (h:wSs g d q ir Z Y (e8 Q) (xK X)):c7 g (d+1) q f as Y Q X:=by
 subst hn;exact bI1 (hT.at' hl) (b9 hc).1 ha (λpm cd doc us e=>hb pm cd doc us (e.trans ha)) ((sSs hT ir (b9 hc).2 h).mono λfl Z' Y' p=>by
   cases fl with
   | ret v=>obtain⟨k,p⟩:=p;exact⟨_,k,p⟩
   | _=>obtain⟨k,p⟩:=p;exact⟨_,k,p⟩)
end
noncomputable def ah9(T:Tab)(f:Str)(k:Nat):Bool:=match T.lookup f with
 | some (.fn j)=>j==k
 | _=>false
theorem cb9{T:Tab}{f:Str}{k:Nat}(h:ah9 T f k=true):T.lookup f=some (.fn k):=by
 unfold ah9 at h;cases e:T.lookup f with
 | none=>rw[e] at h;exact tf h
 | some it=>
  rw[e] at h;cases it with
  | fn j=>rw[beq_iff_eq.mp (show(j==k)=true from h)]
  | _=>exact tf h
noncomputable def g6(T:Tab)(f:Str)(k:Nat)(df:DefRec)(vs:List Str)(ir:ISs)(n:Nat):Bool:=ah9 T f k&&(au3 T df vs ir&&(df.params.args.length==n))
theorem vs1{P:List Value->Prop}(h:∀ a,P [a])(us:List Value)(e:us.length=1):P us:=by
 cases us with
 | nil=>cases e
 | cons a us=>cases us with
  | nil=>exact h a
  | cons _ _=>cases e
theorem vs2{P:List Value->Prop}(h:∀ a b,P [a,b])(us:List Value)(e:us.length=2):P us:=by
 cases us with
 | nil=>cases e
 | cons a us=>exact vs1 (P:=λus=>P (a::us)) (h a) us (Nat.succ.inj e)
theorem vs3{P:List Value->Prop}(h:∀ a b c,P [a,b,c])(us:List Value)(e:us.length=3):P us:=by
 cases us with
 | nil=>cases e
 | cons a us=>exact vs2 (P:=λus=>P (a::us)) (h a) us (Nat.succ.inj e)
theorem vs4{P:List Value->Prop}(h:∀ a b c d,P [a,b,c,d])(us:List Value)(e:us.length=4):P us:=by
 cases us with
 | nil=>cases e
 | cons a us=>exact vs3 (P:=λus=>P (a::us)) (h a) us (Nat.succ.inj e)
theorem vs5{P:List Value->Prop}(h:∀ a b c d e,P [a,b,c,d,e])(us:List Value)(e:us.length=5):P us:=by
 cases us with
 | nil=>cases e
 | cons a us=>exact vs4 (P:=λus=>P (a::us)) (h a) us (Nat.succ.inj e)
theorem g8{g:G}{T:Tab}{P:Program}{d:Nat}{q:Bool}{f:Str}{k:Nat}{ir:ISs}{vs:List Str}{as:List V}{Z:Lo}{Y:Hp}{Q:VP}{X:XP}(hT:TabOK g T)(hp:g.prog=P)(hc:g6 T f k (e9 P k) vs ir as.length=true)(hb:Bnd f (e9 P k) as.length)(hn:as.map some++List.replicate (vs.length-as.length) none=Z)
  (h:wSs g d q ir Z Y (e8 Q) (xK X)):c7 g (d+1) q f as Y Q X:=by
 rw[<- hp] at hc hb;exact aX4 hT (cb9 (b9 hc).1) (b9 (b9 hc).2).1 (beq_iff_eq.mp (b9 (b9 hc).2).2) hb hn h
section
variable{A B:Prop}
theorem aU6{b:Bool}(h:Ite b A B):Ite b A B:=h
theorem ay6(h:A):Ite true A B:=⟨λz_=>h,λe=>(nomatch e)⟩
theorem ao4(h:B):Ite false A B:=⟨λe=>(nomatch e),λz_=>h⟩
theorem bV8{b:Bool}(h:Ite b B A):Ite (!b) A B:=by
 cases h with | mk h1 h2=>cases b with
 | true=>exact⟨λe=>(nomatch e),λz_=>h1 rfl⟩
 | false=>exact⟨λz_=>h2 rfl,λe=>(nomatch e)⟩
theorem bv3{b:Bool}(hb:b=true)(h:A):Ite b A B:=by subst hb;exact ay6 h
theorem be6{b:Bool}(hb:b=false)(h:B):Ite b A B:=by subst hb;exact ao4 h
theorem bP0{p:Prop}[Decidable p](h1:p->A)(h2:¬ p->B):Ite (decide p) A B:=⟨λh=>h1 (of_decide_eq_true h),λh=>h2 (of_decide_eq_false h)⟩
theorem bW7{a b:Int}(h1:a=b->A)(h2:a≠b->B):Ite (a==b) A B:=⟨λh=>h1 (beq_iff_eq.mp h),λh=>h2 (beq_eq_false_iff_ne.mp h)⟩
theorem aZ2{a b:Int}(h1:a≠b->A)(h2:a=b->B):Ite (a != b) A B:=⟨λh=>h1 (bne_iff_ne.mp h),λh=>h2 (bne_eq_false_iff_eq.mp h)⟩
theorem bP8{a b:Nat}(h1:a=b->A)(h2:a≠b->B):Ite (a==b) A B:=⟨λh=>h1 (beq_iff_eq.mp h),λh=>h2 (beq_eq_false_iff_ne.mp h)⟩
theorem bL4{a b:Str}(h1:a=b->A)(h2:a≠b->B):Ite (a==b) A B:=⟨λh=>h1 (beq_iff_eq.mp h),λh=>h2 (beq_eq_false_iff_ne.mp h)⟩
theorem bL2{a b:Str}(h1:a≠b->A)(h2:a=b->B):Ite (a != b) A B:=⟨λh=>h1 (bne_iff_ne.mp h),λh=>h2 (bne_eq_false_iff_eq.mp h)⟩
theorem bN0{a b:Bool}(h1:a≠b->A)(h2:a=b->B):Ite (a != b) A B:=⟨λh=>h1 (bne_iff_ne.mp h),λh=>h2 (bne_eq_false_iff_eq.mp h)⟩
end
theorem bN5{g:G}{d:Nat}{q:Bool}{f:Str}{as:List V}{Y:Hp}{Q:VP}{X:XP}(h:c7 g d q f as Y Q X):c7 g d q f as Y Q X:=h
section
variable{Y:Hp}{Q:VP}{v:V}
theorem d4(h:Q v Y):Ret v Y Q:=⟨Sub.refl _,h⟩
theorem m9{Y':Hp}(k:Sub Y' Y)(h:Q v Y'):Ret v Y Q:=⟨k,h⟩
theorem r_b{b c:Bool}(e:c=b)(h:Q (.bool b) Y):Ret (.bool c) Y Q:=by subst e;exact d4 h
end
theorem ap8{P:Nat->V->Prop}:∀ {l:List V} {i j:Nat} {x:V},L6 P i l->l[j]?=some x->P (i+j) x
 | y::l,i,0,x,h,e=>by cases e;exact h.1
 | y::l,i,j+1,x,h,e=>by
  have:=ap8 (l:=l) (j:=j) h.2 e;rw[cH,dG 1 j] at this;exact this
theorem bo7{l:List V}{n:Int}{K:V->Prop}(h0:0<=n)(h1:n<l.length)(h:L6 (λi x=>n=(i:Nat)->K x) 0 l):Pick l n K:=
 ⟨h0,h1,λx e=>ap8 (P:=λi x=>n=(i:Nat)->K x) h e (by rw[dz];exact(bu h0).symm)⟩
theorem bh8{n:Bool}{d:Nat}{l:List V}{x:V}{Y:Hp}{Q:VP}(h:InL n d l x Y Q):InL n d l x Y Q:=h
inductive RJ(a b:Int)(J:Nat->Lo->Hp->Prop):List V->Lo->Hp->Prop
 | mk {Z:Lo} {Y:Hp} (i:Nat) (e:i<=(b-a).toNat) (k:J i Z Y):RJ a b J ((k8 a 1 (b-a).toNat).drop i) Z Y
theorem RJ.inv{a b:Int}{J:Nat->Lo->Hp->Prop}{l:List V}{Z:Lo}{Y:Hp}(h:RJ a b J l Z Y):∃ i,i<=(b-a).toNat/\l=(k8 a 1 (b-a).toNat).drop i/\J i Z Y:=by
 cases h with | mk i e k=>exact⟨i,e,rfl,k⟩
theorem aD8{a b:Int}{i:Nat}(h:a+i<b):i+1<=(b-a).toNat:=by lia
theorem RJ.next{a b:Int}{J:Nat->Lo->Hp->Prop}{Z:Lo}{Y:Hp}{i:Nat}(h:a+i<b)(k:J (i+1) Z Y):RJ a b J ((k8 a 1 (b-a).toNat).drop (i+1)) Z Y:=.mk _ (aD8 h) k
theorem ce2{a b:Int}{Z:Lo}{Y:Hp}{turn:V->Lo->Hp->d6->Prop}{Q:d6}(J:Nat->Lo->Hp->Prop)(h0:J 0 Z Y)
  (ht:∀ (i:Nat) Z' Y',a+i<b->J i Z' Y'->turn (.int (a+i)) Z' Y' (H0 Q (RJ a b J) ((k8 a 1 (b-a).toNat).drop (i+1)))) (he:∀ Z' Y',J (b-a).toNat Z' Y'->Q .next Z' Y') :
  Loop (k8 a 1 (b-a).toNat) (λz_=>True) Z Y turn Q:=by
 refine⟨RJ a b J,.mk 0 (ay _) h0,λv l Z' Y' h=>?_,λZ' Y' h=>?_⟩
 ·refine i8 h.inv λi e hl k=>?_
  refine k6 (az4 hl) λh1 q1_ q2_=>?_;subst q1_;subst q2_
  exact⟨trivial,ht i Z' Y' (dw (Int.lt_toNat.mp h1)) k⟩
 ·refine i8 h.inv λi e hl k=>?_
  obtain rfl:=ax5 e hl;exact⟨trivial,he Z' Y' k⟩
inductive CJ(a b:Int)(J:Nat->List V->Hp->Prop):List V->List V->Hp->Prop
 | mk {acc:List V} {Y:Hp} (i:Nat) (e:i<=(b-a).toNat) (k:J i acc Y):CJ a b J ((k8 a 1 (b-a).toNat).drop i) acc Y
theorem CJ.inv{a b:Int}{J:Nat->List V->Hp->Prop}{l acc:List V}{Y:Hp}(h:CJ a b J l acc Y):∃ i,i<=(b-a).toNat/\l=(k8 a 1 (b-a).toNat).drop i/\J i acc Y:=by
 cases h with | mk i e k=>exact⟨i,e,rfl,k⟩
theorem CJ.next{a b:Int}{J:Nat->List V->Hp->Prop}{acc:List V}{Y:Hp}{i:Nat}(h:a+i<b)(k:J (i+1) acc Y):CJ a b J ((k8 a 1 (b-a).toNat).drop (i+1)) acc Y:=.mk _ (aD8 h) k
theorem bZ3{a b:Int}{Y:Hp}{turn:V->Hp->VP->(Hp->Prop)->Prop}{Q:VP}(J:Nat->List V->Hp->Prop)(hz:b-a<=10000)(h0:J 0 [] Y)
  (ht:∀ (i:Nat) acc Y',a+i<b->J i acc Y'->turn (.int (a+i)) Y' (λy Y=>CJ a b J ((k8 a 1 (b-a).toNat).drop (i+1)) (acc++[y]) Y) (λY=>CJ a b J ((k8 a 1 (b-a).toNat).drop (i+1)) acc Y))
  (he:∀ acc Y',J (b-a).toNat acc Y'->∀ c,Y' c=none->Q (.ref c) (upd Y' c (.lst acc))) :
  CLoop (k8 a 1 (b-a).toNat) (λz_=>True) Y turn Q:=by
 refine⟨CJ a b J,?_,.mk 0 (ay _) h0,λv l acc Y' h=>?_,λacc Y' h=>?_⟩
 ·rw[N7];exact eX.mpr hz
 ·refine i8 h.inv λi e hl k=>?_
  refine k6 (az4 hl) λh1 q1_ q2_=>?_;subst q1_;subst q2_
  exact⟨trivial,ht i acc Y' (dw (Int.lt_toNat.mp h1)) k⟩
 ·refine i8 h.inv λi e hl k=>?_
  obtain rfl:=ax5 e hl;exact⟨trivial,he acc Y' k⟩
theorem Loop.g{L:List V}{K:Hp->Prop}{Z:Lo}{Y:Hp}{turn:V->Lo->Hp->d6->Prop}{Q:d6}(P:List V->Lo->Hp->Prop)(h0:P L Z Y)
  (k:∀ (R:d6) (J:List V->Lo->Hp->Prop),(∀ {f Z Y},Q f Z Y->R f Z Y)->(∀ {l Z Y},P l Z Y->J l Z Y)->∀ v l Z' Y',P (v::l) Z' Y'->K Y'/\turn v Z' Y' (H0 R J l)) (he:∀ Z' Y',P [] Z' Y'->K Y'/\Q .next Z' Y'):Loop L K Z Y turn Q:=
 Loop.mk P h0 (k Q P id id) he
theorem CLoop.g{L:List V}{K:Hp->Prop}{Y:Hp}{turn:V->Hp->VP->(Hp->Prop)->Prop}{Q:VP}(P:List V->List V->Hp->Prop)(hz:L.length<=10000)(h0:P L [] Y)
  (k:∀ J:List V->List V->Hp->Prop,(∀ {l acc Y},P l acc Y->J l acc Y)->∀ v l acc Y',P (v::l) acc Y'->K Y'/\turn v Y' (λy Y=>J l (acc++[y]) Y) (λY=>J l acc Y)) (he:∀ acc Y',P [] acc Y'->K Y'/\∀ a,Y' a=none->Q (.ref a) (upd Y' a (.lst acc))):CLoop L K Y turn Q:=
 CLoop.mk P hz h0 (k P id) he
theorem Whl.g{Z:Lo}{Y:Hp}{turn:Lo->Hp->d6->(Hp->Prop)->Prop}{Q:d6}(P:Nat->Lo->Hp->Prop)(n:Nat)(h0:P n Z Y)
  (k:∀ (R:d6) (J:Nat->Lo->Hp->Prop),(∀ {f Z Y},Q f Z Y->R f Z Y)->(∀ {n Z Y},(∃ m,m<n/\P m Z Y)->∃ m,m<n/\J m Z Y)->∀ n Z' Y',P n Z' Y'->turn Z' Y' (whQ R J n) (λzs=>R .next Z' zs)):Whl Z Y turn Q:=
 Whl.mk P n h0 (k Q P id id)
theorem C1{a b:Int}{Z:Lo}{Y:Hp}{turn:V->Lo->Hp->d6->Prop}{Q:d6}(P:Nat->Lo->Hp->Prop)(h0:P 0 Z Y)
  (k:∀ (R:d6) (J:Nat->Lo->Hp->Prop),(∀ {f Z Y},Q f Z Y->R f Z Y)->(∀ {i Z Y},P i Z Y->J i Z Y)->∀ (i:Nat) Z' Y',a+i<b->P i Z' Y'->turn (.int (a+i)) Z' Y' (H0 R (RJ a b J) ((k8 a 1 (b-a).toNat).drop (i+1)))) (he:∀ Z' Y',P (b-a).toNat Z' Y'->Q .next Z' Y') :
  Loop (k8 a 1 (b-a).toNat) (λz_=>True) Z Y turn Q:=ce2 P h0 (k Q P id id) he
theorem O1{a b:Int}{Y:Hp}{turn:V->Hp->VP->(Hp->Prop)->Prop}{Q:VP}(P:Nat->List V->Hp->Prop)(hz:b-a<=10000)(h0:P 0 [] Y)
  (k:∀ J:Nat->List V->Hp->Prop,(∀ {i acc Y},P i acc Y->J i acc Y)->∀ (i:Nat) acc Y',a+i<b->P i acc Y'->turn (.int (a+i)) Y' (λy Y=>CJ a b J ((k8 a 1 (b-a).toNat).drop (i+1)) (acc++[y]) Y) (λY=>CJ a b J ((k8 a 1 (b-a).toNat).drop (i+1)) acc Y))
  (he:∀ acc Y',P (b-a).toNat acc Y'->∀ c,Y' c=none->Q (.ref c) (upd Y' c (.lst acc))) :
  CLoop (k8 a 1 (b-a).toNat) (λz_=>True) Y turn Q:=bZ3 P hz h0 (k P id) he
end Internal
set_option maxRecDepth 20000
namespace Internal
theorem H6(n:Nat):((n:Int)-0).toNat=n:=by rw[Int.sub_zero];rfl
theorem cg1(n:Nat):((n:Int)-1-0).toNat=n-1:=by rw[Int.sub_zero];exact Int.toNat_sub n 1
theorem aT0{c:Nat}(h:(c:Int)<=8):0<max (1:Int) c/\max (1:Int) c<2 ^ 64:=⟨Int.lt_of_lt_of_le (by decide) (Int.le_max_left ..),Int.max_lt.mpr ⟨by decide,Int.lt_of_le_of_lt h (by decide)⟩⟩
theorem ao3{n a:Nat}(h:a<n):n-(a+1)<n-a:=Nat.sub_lt_sub_left h (bp a)
noncomputable def tab:Tab:=[(Str.ofString "is_from",.fn 14),
 (Str.ofString "is_number",.fn 15),
 (Str.ofString "is_row",.fn 16),
 (Str.ofString "is_table",.fn 17),
 (Str.ofString "at_number",.fn 18),
 (Str.ofString "is_word",.fn 24),
 (Str.ofString "within",.fn 25),
 (Str.ofString "is_fitting",.fn 26),
 (Str.ofString "is_one",.fn 27),
 (Str.ofString "is_rule",.fn 28),
 (Str.ofString "gathered",.fn 29),
 (Str.ofString "named",.fn 30),
 (Str.ofString "steps_to",.fn 35),
 (Str.ofString "ring_from",.fn 36),
 (Str.ofString "ring_of",.fn 37),
 (Str.ofString "form_of",.fn 38),
 (Str.ofString "order_of",.fn 39),
 (Str.ofString "papers_of",.fn 41),
 (Str.ofString "need_taken",.fn 42),
 (Str.ofString "of_two",.fn 43),
 (Str.ofString "leaf",.fn 44),
 (Str.ofString "worth",.fn 45),
 (Str.ofString "reckoned",.fn 46),
 (Str.ofString "history",.fn 47),
 (Str.ofString "truths_of",.fn 50),
 (Str.ofString "rows_of",.fn 51),
 (Str.ofString "sums",.fn 52),
 (Str.ofString "least",.fn 53),
 (Str.ofString "_law_cell_at",.fn 55),
 (Str.ofString "_law_mixed",.fn 56),
 (Str.ofString "_law_next",.fn 57),
 (Str.ofString "_law_whole",.fn 58),
 (Str.ofString "_law_number",.fn 59),
 (Str.ofString "_law_table",.fn 60),
 (Str.ofString "_law_words",.fn 61),
 (Str.ofString "_law_plain",.fn 62),
 (Str.ofString "_law_rule",.fn 63),
 (Str.ofString "_law_sizes",.fn 64),
 (Str.ofString "_law_order",.fn 65),
 (Str.ofString "_law_form",.fn 66),
 (Str.ofString "_law_named",.fn 67),
 (Str.ofString "_law_at",.fn 68),
 (Str.ofString "_law_value",.fn 69),
 (Str.ofString "_law_papers",.fn 70),
 (Str.ofString "_law_taken",.fn 71),
 (Str.ofString "_law_alone",.fn 72),
 (Str.ofString "_law_reckoned",.fn 73),
 (Str.ofString "_law_row",.fn 74),
 (Str.ofString "_law_sum",.fn 75),
 (Str.ofString "_law_choices",.fn 76),
 (Str.ofString "_law_all",.fn 77),
 (Str.ofString "_law_tried",.fn 78),
 (Str.ofString "_law_any",.fn 79),
 (Str.ofString "_law_refused",.fn 80),
 (Str.ofString "_law_kinds",.fn 81),
 (Str.ofString "law",.fn 82),
 (Str.ofString "DEEPEST",.int 8),
 (Str.ofString "FormError",.cls 24 (vbm)),
 (Str.ofString "GREATEST",.int 1000000000),
 (Str.ofString "LETTERS",.str "abcdefghijklmnopqrstuvwxyz"),
 (Str.ofString "LONGEST",.int 8),
 (Str.ofString "MOST_CHOICES",.int 8),
 (Str.ofString "MOST_IN_ALL",.int 8),
 (Str.ofString "MOST_LINES",.int 40),
 (Str.ofString "MOST_ROWS",.int 20),
 (Str.ofString "MOST_TABLES",.int 5),
 (Str.ofString "NoChoice",.cls 121 (.ref 24::vbm)),
 (Str.ofString "NoForm",.cls 49 (.ref 24::vbm)),
 (Str.ofString "NoLine",.cls 109 (.ref 24::vbm)),
 (Str.ofString "NoPaper",.cls 85 (.ref 24::vbm)),
 (Str.ofString "NoRule",.cls 61 (.ref 24::vbm)),
 (Str.ofString "NoTable",.cls 37 (.ref 24::vbm)),
 (Str.ofString "NoYear",.cls 97 (.ref 24::vbm)),
 (Str.ofString "Ring",.cls 73 (.ref 24::vbm)),
 (Str.ofString "SIZES",.dict szs),
 (Str.ofString "TooMany",.cls 133 (.ref 24::vbm)),
 (Str.ofString "ValueError",.ty "ValueError"),
 (Str.ofString "all",.bi "all"),
 (Str.ofString "bool",.ty "bool"),
 (Str.ofString "dict",.ty "dict"),
 (Str.ofString "int",.ty "int"),
 (Str.ofString "isinstance",.bi "isinstance"),
 (Str.ofString "len",.bi "len"),
 (Str.ofString "list",.ty "list"),
 (Str.ofString "max",.bi "max"),
 (Str.ofString "min",.bi "min"),
 (Str.ofString "range",.ty "range"),
 (Str.ofString "set",.ty "set"),
 (Str.ofString "sorted",.bi "sorted"),
 (Str.ofString "str",.ty "str"),
 (Str.ofString "sum",.bi "sum"),
 (Str.ofString "tuple",.ty "tuple"),
 (Str.ofString "zip",.ty "zip")]
noncomputable def pq:Program:=Challenge.pw_uf010038_09
structure Nm(g:G):Prop where
 prog:g.prog=pq
 tab:TabOK g tab
section
variable{g:G}{d:Nat}{q:Bool}{Y:Hp}{Q:VP}{X:XP}
noncomputable def aJ0:ISs:=(.cons (.ret (.and (.isi (.v 0) .int) (.and (.not (.isi (.v 0) .bool)) (.chain .LtE .LtE (.v 1) (.v 0) (.v 2))))) .nil)
theorem ba5:g6 tab "is_from" 14 (e9 pq 14) ["thing","low","high"] aJ0 3=true:=by decide +kernel
theorem bq5(N:Nm g){a0 a1 a2:V}(h:wSs g d q aJ0 [some a0,some a1,some a2] Y (e8 Q) (xK X)):c7 g (d+1) q "is_from" [a0,a1,a2] Y Q X:=g8 N.tab N.prog ba5 (λz_ z_ z_=>vs3 λz_ z_ z_=>rfl) rfl h
noncomputable def aK4:ISs:=(.cons (.ret (.call "is_from" (.cons (.v 0) (.cons (.bin .Sub (.k (.int 0)) (.k (.int 1000000000))) (.cons (.k (.int 1000000000)) .nil))))) .nil)
theorem bO4:g6 tab "is_number" 15 (e9 pq 15) ["thing"] aK4 1=true:=by decide +kernel
theorem bG6(N:Nm g){a0:V}(h:wSs g d q aK4 [some a0] Y (e8 Q) (xK X)):c7 g (d+1) q "is_number" [a0] Y Q X:=g8 N.tab N.prog bO4 (λz_ z_ z_=>vs1 λz_=>rfl) rfl h
noncomputable def aC0:ISs:=(.cons (.iff (.or (.not (.isi (.v 0) .tuple)) (.cmp .NotEq (.bi .len (.cons (.v 0) .nil)) (.k (.int 3)))) (.cons (.ret (.k (.bool false))) .nil) .nil) (.cons (.ret (.and (.call "is_number" (.cons (.itk (.v 0) 0) .nil)) (.and (.call "is_number" (.cons (.itk (.v 0) 1) .nil)) (.call "is_from" (.cons (.itk (.v 0) 2) (.cons (.k (.int 0)) (.cons (.k (.int 100)) .nil))))))) .nil))
theorem bb2:g6 tab "is_row" 16 (e9 pq 16) ["thing"] aC0 1=true:=by decide +kernel
theorem bK2(N:Nm g){a0:V}(h:wSs g d q aC0 [some a0] Y (e8 Q) (xK X)):c7 g (d+1) q "is_row" [a0] Y Q X:=g8 N.tab N.prog bb2 (λz_ z_ z_=>vs1 λz_=>rfl) rfl h
noncomputable def aH4:ISs:=(.cons (.iff (.or (.not (.isi (.v 0) .tuple)) (.not (.chain .LtE .LtE (.k (.int 1)) (.bi .len (.cons (.v 0) .nil)) (.k (.int 20))))) (.cons (.ret (.k (.bool false))) .nil) .nil) (.cons (.loop 1 (.e (.v 0)) (.cons (.iff (.not (.call "is_row" (.cons (.v 1) .nil))) (.cons (.ret (.k (.bool false))) .nil) .nil) .nil)) (.cons (.ret (.bi .all (.cons (.comp [0] (.cmp .Lt (.itk (.itm (.v 1) (.v 0)) 0) (.itk (.itm (.v 1) (.bin .Add (.v 0) (.k (.int 1)))) 0)) (.r1 (.bin .Sub (.bi .len (.cons (.v 0) .nil)) (.k (.int 1)))) .nil) .nil))) .nil)))
theorem bN3:g6 tab "is_table" 17 (e9 pq 17) ["thing","row"] aH4 1=true:=by decide +kernel
theorem bK8(N:Nm g){a0:V}(h:wSs g d q aH4 [some a0,none] Y (e8 Q) (xK X)):c7 g (d+1) q "is_table" [a0] Y Q X:=g8 N.tab N.prog bN3 (λz_ z_ z_=>vs1 λz_=>rfl) rfl h
noncomputable def az0:ISs:=(.cons (.asg 2 (.k (.int 0))) (.cons (.loops [3,4,5] (.e (.v 0)) (.cons (.iff (.cmp .LtE (.v 3) (.v 1)) (.cons (.asg 2 (.bin .Add (.v 4) (.bin .FloorDiv (.bin .Mult (.bin .Sub (.v 1) (.v 3)) (.v 5)) (.k (.int 100))))) .nil) .nil) .nil)) (.cons (.ret (.v 2)) .nil)))
theorem ck2:g6 tab "at_number" 18 (e9 pq 18) ["table","number","found","start","plus","percent"] az0 2=true:=by decide +kernel
theorem bT1(N:Nm g){a0 a1:V}(h:wSs g d q az0 [some a0,some a1,none,none,none,none] Y (e8 Q) (xK X)):c7 g (d+1) q "at_number" [a0,a1] Y Q X:=g8 N.tab N.prog ck2 (λz_ z_ z_=>vs2 λz_ z_=>rfl) rfl h
noncomputable def au9:ISs:=(.cons (.iff (.or (.not (.isi (.v 0) .str)) (.not (.chain .LtE .LtE (.k (.int 1)) (.bi .len (.cons (.v 0) .nil)) (.k (.int 8))))) (.cons (.ret (.k (.bool false))) .nil) .nil) (.cons (.ret (.bi .all (.cons (.comp [] (.cmp .In (.v 0) (.k (.str "abcdefghijklmnopqrstuvwxyz"))) (.e (.v 0)) .nil) .nil))) .nil))
theorem bj5:g6 tab "is_word" 24 (e9 pq 24) ["thing"] au9 1=true:=by decide +kernel
theorem cf9(N:Nm g){a0:V}(h:wSs g d q au9 [some a0] Y (e8 Q) (xK X)):c7 g (d+1) q "is_word" [a0] Y Q X:=g8 N.tab N.prog bj5 (λz_ z_ z_=>vs1 λz_=>rfl) rfl h
noncomputable def aM5:ISs:=(.cons (.asg 1 (.itk (.v 0) 0)) (.cons (.iff (.cmp .In (.v 1) (.tup (.cons (.k (.str "number")) (.cons (.k (.str "paper")) (.cons (.k (.str "line")) (.cons (.k (.str "earlier")) .nil)))))) (.cons (.ret (.lst .nil)) .nil) .nil) (.cons (.iff (.cmp .Eq (.v 1) (.k (.str "part"))) (.cons (.ret (.lst (.cons (.itk (.v 0) 1) .nil))) .nil) .nil) (.cons (.iff (.or (.cmp .Eq (.v 1) (.k (.str "table"))) (.cmp .Eq (.v 1) (.k (.str "choose")))) (.cons (.ret (.bi .list (.cons (.slc (.v 0) (.k (.int 2)) (.k .none)) .nil))) .nil) .nil) (.cons (.ret (.bi .list (.cons (.slc (.v 0) (.k (.int 1)) (.k .none)) .nil))) .nil)))))
theorem bz4:g6 tab "within" 25 (e9 pq 25) ["rule","word"] aM5 1=true:=by decide +kernel
theorem bG0(N:Nm g){a0:V}(h:wSs g d q aM5 [some a0,none] Y (e8 Q) (xK X)):c7 g (d+1) q "within" [a0] Y Q X:=g8 N.tab N.prog bz4 (λz_ z_ z_=>vs1 λz_=>rfl) rfl h
noncomputable def aA5:ISs:=(.cons (.asg 4 (.itk (.v 0) 0)) (.cons (.iff (.cmp .Eq (.v 4) (.k (.str "number"))) (.cons (.ret (.call "is_number" (.cons (.itk (.v 0) 1) .nil))) .nil) .nil) (.cons (.iff (.cmp .Eq (.v 4) (.k (.str "paper"))) (.cons (.ret (.call "is_word" (.cons (.itk (.v 0) 1) .nil))) .nil) .nil) (.cons (.iff (.or (.cmp .Eq (.v 4) (.k (.str "line"))) (.cmp .Eq (.v 4) (.k (.str "earlier")))) (.cons (.ret (.call "is_from" (.cons (.itk (.v 0) 1) (.cons (.k (.int 0)) (.cons (.bin .Sub (.v 1) (.k (.int 1))) .nil))))) .nil) .nil) (.cons (.iff (.cmp .Eq (.v 4) (.k (.str "part"))) (.cons (.ret (.call "is_from" (.cons (.itk (.v 0) 2) (.cons (.k (.int 0)) (.cons (.k (.int 100)) .nil))))) .nil) .nil) (.cons (.iff (.cmp .Eq (.v 4) (.k (.str "table"))) (.cons (.ret (.call "is_from" (.cons (.itk (.v 0) 1) (.cons (.k (.int 0)) (.cons (.bin .Sub (.v 2) (.k (.int 1))) .nil))))) .nil) .nil) (.cons (.iff (.cmp .Eq (.v 4) (.k (.str "choose"))) (.cons (.ret (.call "is_from" (.cons (.itk (.v 0) 1) (.cons (.k (.int 0)) (.cons (.bin .Sub (.v 3) (.k (.int 1))) .nil))))) .nil) .nil) (.cons (.ret (.k (.bool true))) .nil))))))))
theorem ba0:g6 tab "is_fitting" 26 (e9 pq 26) ["rule","lines","tables","choices","word"] aA5 4=true:=by decide +kernel
theorem G7(N:Nm g){a0 a1 a2 a3:V}(h:wSs g d q aA5 [some a0,some a1,some a2,some a3,none] Y (e8 Q) (xK X)):c7 g (d+1) q "is_fitting" [a0,a1,a2,a3] Y Q X:=g8 N.tab N.prog ba0 (λz_ z_ z_=>vs4 λz_ z_ z_ z_=>rfl) rfl h
noncomputable def ar7:ISs:=(.cons (.iff (.or (.cmp .Eq (.v 1) (.k (.int 0))) (.or (.not (.isi (.v 0) .tuple)) (.or (.cmp .Eq (.v 0) (.tup .nil)) (.not (.isi (.itk (.v 0) 0) .str))))) (.cons (.ret (.k (.bool false))) .nil) .nil) (.cons (.iff (.or (.cmp .NotEq (.get szs (.itk (.v 0) 0)) (.bi .len (.cons (.v 0) .nil))) (.not (.call "is_fitting" (.cons (.v 0) (.cons (.v 2) (.cons (.v 3) (.cons (.v 4) .nil))))))) (.cons (.ret (.k (.bool false))) .nil) .nil) (.cons (.loop 5 (.e (.call "within" (.cons (.v 0) .nil))) (.cons (.iff (.not (.call "is_one" (.cons (.v 5) (.cons (.bin .Sub (.v 1) (.k (.int 1))) (.cons (.v 2) (.cons (.v 3) (.cons (.v 4) .nil))))))) (.cons (.ret (.k (.bool false))) .nil) .nil) .nil)) (.cons (.ret (.k (.bool true))) .nil))))
theorem bO7:g6 tab "is_one" 27 (e9 pq 27) ["thing","room","lines","tables","choices","one"] ar7 5=true:=by decide +kernel
theorem ao5(N:Nm g){a0 a1 a2 a3 a4:V}(h:wSs g d q ar7 [some a0,some a1,some a2,some a3,some a4,none] Y (e8 Q) (xK X)):c7 g (d+1) q "is_one" [a0,a1,a2,a3,a4] Y Q X:=g8 N.tab N.prog bO7 (λz_ z_ z_=>vs5 λz_ z_ z_ z_ z_=>rfl) rfl h
noncomputable def aJ7:ISs:=(.cons (.ret (.call "is_one" (.cons (.v 0) (.cons (.k (.int 8)) (.cons (.v 1) (.cons (.v 2) (.cons (.v 3) .nil))))))) .nil)
theorem bk6:g6 tab "is_rule" 28 (e9 pq 28) ["thing","lines","tables","choices"] aJ7 4=true:=by decide +kernel
theorem bD2(N:Nm g){a0 a1 a2 a3:V}(h:wSs g d q aJ7 [some a0,some a1,some a2,some a3] Y (e8 Q) (xK X)):c7 g (d+1) q "is_rule" [a0,a1,a2,a3] Y Q X:=g8 N.tab N.prog bk6 (λz_ z_ z_=>vs4 λz_ z_ z_ z_=>rfl) rfl h
noncomputable def aK9:ISs:=(.cons (.loop 3 (.e (.call "within" (.cons (.v 0) .nil))) (.cons (.asg 2 (.bin .Add (.v 2) (.call "gathered" (.cons (.v 3) (.cons (.v 1) .nil))))) (.drop .nil))) (.cons (.ret (.v 2)) .nil))
noncomputable def aA6:ISs:=(.cons (.asg 2 (.lst .nil)) (.cons (.iff (.cmp .Eq (.itk (.v 0) 0) (.v 1)) (.cons (.expr (.meth .append (.v 2) (.cons (.itk (.v 0) 1) .nil))) .nil) .nil) (.stop aK9)))
theorem bm1:g6 tab "gathered" 29 (e9 pq 29) ["rule","word","found","one"] aA6 2=true:=by decide +kernel
theorem be8(N:Nm g){a0 a1:V}(h:wSs g d q aA6 [some a0,some a1,none,none] Y (e8 Q) (xK X)):c7 g (d+1) q "gathered" [a0,a1] Y Q X:=g8 N.tab N.prog bm1 (λz_ z_ z_=>vs2 λz_ z_=>rfl) rfl h
noncomputable def aw5:ISs:=(.cons (.ret (.sset (.call "gathered" (.cons (.v 0) (.cons (.v 1) .nil))))) .nil)
theorem bW5:g6 tab "named" 30 (e9 pq 30) ["rule","word"] aw5 2=true:=by decide +kernel
theorem ce1(N:Nm g){a0 a1:V}(h:wSs g d q aw5 [some a0,some a1] Y (e8 Q) (xK X)):c7 g (d+1) q "named" [a0,a1] Y Q X:=g8 N.tab N.prog bW5 (λz_ z_ z_=>vs2 λz_ z_=>rfl) rfl h
noncomputable def aL0:ISs:=(.cons (.asg 2 (.dic1 false (.v 1) (.k (.int 0)))) (.cons (.asg 3 (.lst (.cons (.v 1) .nil))) (.cons (.asg 4 (.k (.int 0))) (.cons (.whil (.cmp .Lt (.v 4) (.bi .len (.cons (.v 3) .nil))) (.cons (.asg 5 (.itm (.v 3) (.v 4))) (.cons (.loop 6 (.r1 (.bi .len (.cons (.v 0) .nil))) (.cons (.iff (.and (.cmp .In (.v 5) (.itm (.v 0) (.v 6))) (.cmp .NotIn (.v 6) (.v 2))) (.cons (.seti (.v 2) (.v 6) (.bin .Add (.itm (.v 2) (.v 5)) (.k (.int 1)))) (.cons (.expr (.meth .append (.v 3) (.cons (.v 6) .nil))) .nil)) .nil) .nil)) (.cons (.asg 4 (.bin .Add (.v 4) (.k (.int 1)))) .nil)))) (.cons (.ret (.v 2)) .nil)))))
theorem cj8:g6 tab "steps_to" 35 (e9 pq 35) ["names","goal","found","some","at","line","other"] aL0 2=true:=by decide +kernel
theorem aR6(N:Nm g){a0 a1:V}(h:wSs g d q aL0 [some a0,some a1,none,none,none,none,none] Y (e8 Q) (xK X)):c7 g (d+1) q "steps_to" [a0,a1] Y Q X:=g8 N.tab N.prog cj8 (λz_ z_ z_=>vs2 λz_ z_=>rfl) rfl h
noncomputable def au1:ISs:=(.cons (.asg 2 (.call "steps_to" (.cons (.v 0) (.cons (.v 1) .nil)))) (.cons (.asg 3 (.comp [2] (.itm (.v 1) (.v 0)) (.e (.itm (.v 0) (.v 1))) (.cons (.cmp .In (.v 0) (.v 1)) .nil))) (.cons (.iff (.cmp .Eq (.v 3) (.lst .nil)) (.cons (.ret (.lst .nil)) .nil) .nil) .any)))
theorem bt7:g6 tab "ring_from" 36 (e9 pq 36) ["names","start","far","nexts","found","left"] au1 2=true:=by decide +kernel
theorem bC3(N:Nm g){a0 a1:V}(h:wSs g d q au1 [some a0,some a1,none,none,none,none] Y (e8 Q) (xK X)):c7 g (d+1) q "ring_from" [a0,a1] Y Q X:=g8 N.tab N.prog bt7 (λz_ z_ z_=>vs2 λz_ z_=>rfl) rfl h
noncomputable def aL9:ISs:=(.cons (.asg 1 (.comp [] (.call "named" (.cons (.v 0) (.cons (.k (.str "line")) .nil))) (.e (.v 0)) .nil)) (.cons (.asg 2 (.lst .nil)) (.cons (.loop 3 (.r1 (.bi .len (.cons (.v 0) .nil))) (.cons (.asg 4 (.call "ring_from" (.cons (.v 1) (.cons (.v 3) .nil)))) (.cons (.iff (.and (.cmp .NotEq (.v 4) (.lst .nil)) (.or (.cmp .Eq (.v 2) (.lst .nil)) (.cmp .Lt (.bi .len (.cons (.v 4) .nil)) (.bi .len (.cons (.v 2) .nil))))) (.cons (.asg 2 (.v 4)) .nil) .nil) .nil))) (.cons (.ret (.v 2)) .nil))))
theorem bK1:g6 tab "ring_of" 37 (e9 pq 37) ["lines","names","best","start","ring"] aL9 1=true:=by decide +kernel
theorem bJ7(N:Nm g){a0:V}(h:wSs g d q aL9 [some a0,none,none,none,none] Y (e8 Q) (xK X)):c7 g (d+1) q "ring_of" [a0] Y Q X:=g8 N.tab N.prog bK1 (λz_ z_ z_=>vs1 λz_=>rfl) rfl h
noncomputable def aH8:ISs:=(.cons (.iff (.or (.cmp .Gt (.bi .len (.cons (.v 1) .nil)) (.k (.int 5))) (.not (.bi .all (.cons (.comp [] (.call "is_table" (.cons (.v 0) .nil)) (.e (.v 1)) .nil) .nil)))) (.cons (.rais "NoTable" (.cons (.k (.str "no tables")) .nil)) .nil) .nil) (.cons (.asg 4 (.bi .len (.cons (.v 0) .nil))) (.cons (.iff (.or (.not (.chain .LtE .LtE (.k (.int 1)) (.v 4) (.k (.int 40)))) (.or (.not (.call "is_from" (.cons (.v 2) (.cons (.k (.int 0)) (.cons (.k (.int 8)) .nil))))) (.not (.call "is_from" (.cons (.v 3) (.cons (.k (.int 0)) (.cons (.bin .Sub (.v 4) (.k (.int 1))) .nil))))))) (.cons (.rais "NoForm" (.cons (.k (.str "no form")) .nil)) .nil) .nil) (.cons (.loop 5 (.e (.v 0)) (.cons (.iff (.not (.call "is_rule" (.cons (.v 5) (.cons (.v 4) (.cons (.bi .len (.cons (.v 1) .nil)) (.cons (.v 2) .nil)))))) (.cons (.rais "NoRule" (.cons (.k (.str "no rule")) .nil)) .nil) .nil) .nil)) (.cons (.iff (.cmp .NotEq (.call "ring_of" (.cons (.v 0) .nil)) (.lst .nil)) (.cons (.rais "Ring" (.cons (.k (.str "lines in a ring")) .nil)) .nil) .nil) (.cons (.ret (.tup (.cons (.bi .tuple (.cons (.v 0) .nil)) (.cons (.bi .tuple (.cons (.v 1) .nil)) (.cons (.v 2) (.cons (.v 3) .nil)))))) .nil))))))
theorem cb4:g6 tab "form_of" 38 (e9 pq 38) ["lines","tables","choices","owed","many","rule"] aH8 4=true:=by decide +kernel
theorem bi2(N:Nm g){a0 a1 a2 a3:V}(h:wSs g d q aH8 [some a0,some a1,some a2,some a3,none,none] Y (e8 Q) (xK X)):c7 g (d+1) q "form_of" [a0,a1,a2,a3] Y Q X:=g8 N.tab N.prog cb4 (λz_ z_ z_=>vs4 λz_ z_ z_ z_=>rfl) rfl h
noncomputable def aH3:ISs:=(.cons (.asg 1 (.comp [] (.call "named" (.cons (.v 0) (.cons (.k (.str "line")) .nil))) (.e (.itk (.v 0) 0)) .nil)) (.cons (.asg 2 (.lst .nil)) (.cons (.whil (.cmp .Lt (.bi .len (.cons (.v 2) .nil)) (.bi .len (.cons (.v 1) .nil))) (.cons (.loop 3 (.r1 (.bi .len (.cons (.v 1) .nil))) (.cons (.iff (.and (.cmp .NotIn (.v 3) (.v 2)) (.bi .all (.cons (.comp [2] (.cmp .In (.v 0) (.v 1)) (.e (.itm (.v 1) (.v 3))) .nil) .nil))) (.cons (.expr (.meth .append (.v 2) (.cons (.v 3) .nil))) (.cons .brk .nil)) .nil) .nil)) .nil)) (.cons (.ret (.v 2)) .nil))))
theorem aX0:g6 tab "order_of" 39 (e9 pq 39) ["form","names","found","line"] aH3 1=true:=by decide +kernel
theorem bA9(N:Nm g){a0:V}(h:wSs g d q aH3 [some a0,none,none,none] Y (e8 Q) (xK X)):c7 g (d+1) q "order_of" [a0] Y Q X:=g8 N.tab N.prog aX0 (λz_ z_ z_=>vs1 λz_=>rfl) rfl h
noncomputable def at1:ISs:=(.cons (.iff (.not (.isi (.v 0) .list)) (.cons (.rais "NoPaper" (.cons (.k (.str "no papers")) .nil)) .nil) .nil) (.cons (.asg 1 (.dic0 true)) (.cons (.loop 2 (.e (.v 0)) (.cons (.iff (.or (.not (.isi (.v 2) .tuple)) (.or (.cmp .NotEq (.bi .len (.cons (.v 2) .nil)) (.k (.int 2))) (.or (.not (.call "is_word" (.cons (.itk (.v 2) 0) .nil))) (.not (.call "is_number" (.cons (.itk (.v 2) 1) .nil)))))) (.cons (.rais "NoPaper" (.cons (.k (.str "no paper")) .nil)) .nil) .nil) (.cons (.iff (.cmp .In (.itk (.v 2) 0) (.v 1)) (.cons (.rais "NoPaper" (.cons (.k (.str "a paper twice")) .nil)) .nil) .nil) (.cons (.seti (.v 1) (.itk (.v 2) 0) (.itk (.v 2) 1)) .nil)))) (.cons (.ret (.v 1)) .nil))))
theorem bw1:g6 tab "papers_of" 41 (e9 pq 41) ["pairs","found","pair"] at1 1=true:=by decide +kernel
theorem bX7(N:Nm g){a0:V}(h:wSs g d q at1 [some a0,none,none] Y (e8 Q) (xK X)):c7 g (d+1) q "papers_of" [a0] Y Q X:=g8 N.tab N.prog bw1 (λz_ z_ z_=>vs1 λz_=>rfl) rfl h
noncomputable def aE1:ISs:=(.cons (.iff (.or (.not (.isl (.v 1))) (.cmp .NotEq (.bi .len (.cons (.v 1) .nil)) (.itk (.v 0) 2))) (.cons (.rais "NoChoice" (.cons (.k (.str "not as many choices")) .nil)) .nil) .nil) (.cons (.loop 2 (.e (.v 1)) (.cons (.iff (.not (.isi (.v 2) .bool)) (.cons (.rais "NoChoice" (.cons (.k (.str "no truth")) .nil)) .nil) .nil) .nil)) .nil))
theorem bY3:g6 tab "need_taken" 42 (e9 pq 42) ["form","taken","one"] aE1 2=true:=by decide +kernel
theorem cf1(N:Nm g){a0 a1:V}(h:wSs g d q aE1 [some a0,some a1,none] Y (e8 Q) (xK X)):c7 g (d+1) q "need_taken" [a0,a1] Y Q X:=g8 N.tab N.prog bY3 (λz_ z_ z_=>vs2 λz_ z_=>rfl) rfl h
noncomputable def ap5:ISs:=(.cons (.iff (.cmp .Eq (.v 0) (.k (.str "add"))) (.cons (.ret (.bin .Add (.v 1) (.v 2))) .nil) .nil) (.cons (.iff (.cmp .Eq (.v 0) (.k (.str "take"))) (.cons (.ret (.bin .Sub (.v 1) (.v 2))) .nil) .nil) (.cons (.iff (.cmp .Eq (.v 0) (.k (.str "least"))) (.cons (.ret (.bi .min (.cons (.v 1) (.cons (.v 2) .nil)))) .nil) .nil) (.cons (.ret (.bi .max (.cons (.v 1) (.cons (.v 2) .nil)))) .nil))))
theorem bW8:g6 tab "of_two" 43 (e9 pq 43) ["word","one","other"] ap5 3=true:=by decide +kernel
theorem bW2(N:Nm g){a0 a1 a2:V}(h:wSs g d q ap5 [some a0,some a1,some a2] Y (e8 Q) (xK X)):c7 g (d+1) q "of_two" [a0,a1,a2] Y Q X:=g8 N.tab N.prog bW8 (λz_ z_ z_=>vs3 λz_ z_ z_=>rfl) rfl h
noncomputable def aF7:ISs:=(.cons (.unp [2,3,4,5,6] 1) (.cons (.iff (.cmp .Eq (.itk (.v 0) 0) (.k (.str "number"))) (.cons (.ret (.itk (.v 0) 1)) .nil) .nil) (.cons (.iff (.cmp .Eq (.itk (.v 0) 0) (.k (.str "paper"))) (.cons (.ret (.dg2 (.v 2) (.itk (.v 0) 1) (.k (.int 0)))) .nil) .nil) (.cons (.iff (.cmp .Eq (.itk (.v 0) 0) (.k (.str "line"))) (.cons (.ret (.itm (.v 6) (.itk (.v 0) 1))) .nil) .nil) (.cons (.iff (.cmp .Eq (.bi .len (.cons (.v 3) .nil)) (.k (.int 0))) (.cons (.ret (.k (.int 0))) .nil) .nil) (.cons (.ret (.itm (.v 3) (.itk (.v 0) 1))) .nil))))))
theorem br3:g6 tab "leaf" 44 (e9 pq 44) ["rule","year","papers","earlier","taken","tables","values"] aF7 2=true:=by decide +kernel
theorem bI6(N:Nm g){a0 a1:V}(h:wSs g d q aF7 [some a0,some a1,none,none,none,none,none] Y (e8 Q) (xK X)):c7 g (d+1) q "leaf" [a0,a1] Y Q X:=g8 N.tab N.prog br3 (λz_ z_ z_=>vs2 λz_ z_=>rfl) rfl h
noncomputable def aw7:ISs:=(.cons (.asg 2 (.itk (.v 0) 0)) (.cons (.iff (.cmp .In (.v 2) (.tup (.cons (.k (.str "number")) (.cons (.k (.str "paper")) (.cons (.k (.str "line")) (.cons (.k (.str "earlier")) .nil)))))) (.cons (.ret (.call "leaf" (.cons (.v 0) (.cons (.v 1) .nil)))) .nil) .nil) (.cons (.iff (.cmp .Eq (.v 2) (.k (.str "part"))) (.cons (.ret (.bin .FloorDiv (.bin .Mult (.call "worth" (.cons (.itk (.v 0) 1) (.cons (.v 1) .nil))) (.itk (.v 0) 2)) (.k (.int 100)))) .nil) .nil) (.cons (.iff (.cmp .Eq (.v 2) (.k (.str "table"))) (.cons (.ret (.call "at_number" (.cons (.itm (.itk (.v 1) 3) (.itk (.v 0) 1)) (.cons (.call "worth" (.cons (.itk (.v 0) 2) (.cons (.v 1) .nil))) .nil)))) .nil) .nil) (.cons (.iff (.cmp .Eq (.v 2) (.k (.str "where"))) (.cons (.iff (.cmp .Gt (.call "worth" (.cons (.itk (.v 0) 1) (.cons (.v 1) .nil))) (.k (.int 0))) (.cons (.ret (.call "worth" (.cons (.itk (.v 0) 2) (.cons (.v 1) .nil)))) .nil) .nil) (.cons (.ret (.call "worth" (.cons (.itk (.v 0) 3) (.cons (.v 1) .nil)))) .nil)) .nil) (.cons (.iff (.cmp .Eq (.v 2) (.k (.str "choose"))) (.cons (.iff (.itm (.itk (.v 1) 2) (.itk (.v 0) 1)) (.cons (.ret (.call "worth" (.cons (.itk (.v 0) 3) (.cons (.v 1) .nil)))) .nil) .nil) (.cons (.ret (.call "worth" (.cons (.itk (.v 0) 2) (.cons (.v 1) .nil)))) .nil)) .nil) (.cons (.ret (.call "of_two" (.cons (.v 2) (.cons (.call "worth" (.cons (.itk (.v 0) 1) (.cons (.v 1) .nil))) (.cons (.call "worth" (.cons (.itk (.v 0) 2) (.cons (.v 1) .nil))) .nil))))) .nil)))))))
theorem bb6:g6 tab "worth" 45 (e9 pq 45) ["rule","year","word"] aw7 2=true:=by decide +kernel
theorem bu1(N:Nm g){a0 a1:V}(h:wSs g d q aw7 [some a0,some a1,none] Y (e8 Q) (xK X)):c7 g (d+1) q "worth" [a0,a1] Y Q X:=g8 N.tab N.prog bb6 (λz_ z_ z_=>vs2 λz_ z_=>rfl) rfl h
noncomputable def az7:ISs:=(.cons (.asg 4 (.call "papers_of" (.cons (.v 1) .nil))) (.cons (.expr (.call "need_taken" (.cons (.v 0) (.cons (.v 3) .nil)))) (.cons (.asg 5 (.dic0 false)) (.cons (.asg 6 (.tup (.cons (.v 4) (.cons (.v 2) (.cons (.v 3) (.cons (.itk (.v 0) 1) (.cons (.v 5) .nil))))))) (.cons (.loop 7 (.e (.call "order_of" (.cons (.v 0) .nil))) (.cons (.seti (.v 5) (.v 7) (.call "worth" (.cons (.itm (.itk (.v 0) 0) (.v 7)) (.cons (.v 6) .nil)))) .nil)) (.cons (.ret (.comp [5] (.itm (.v 1) (.v 0)) (.r1 (.bi .len (.cons (.itk (.v 0) 0) .nil))) .nil)) .nil))))))
theorem bO1:g6 tab "reckoned" 46 (e9 pq 46) ["form","pairs","earlier","taken","papers","values","year","line"] az7 4=true:=by decide +kernel
theorem bt2(N:Nm g){a0 a1 a2 a3:V}(h:wSs g d q az7 [some a0,some a1,some a2,some a3,none,none,none,none] Y (e8 Q) (xK X)):c7 g (d+1) q "reckoned" [a0,a1,a2,a3] Y Q X:=g8 N.tab N.prog bO1 (λz_ z_ z_=>vs4 λz_ z_ z_ z_=>rfl) rfl h
noncomputable def as3:ISs:=(.cons (.asg 3 (.lst .nil)) (.cons (.asg 4 (.lst .nil)) (.cons (.loopz [5,6] (.cons (.v 1) (.cons (.v 2) .nil)) (.cons (.asg 4 (.call "reckoned" (.cons (.v 0) (.cons (.v 5) (.cons (.v 4) (.cons (.v 6) .nil)))))) (.cons (.expr (.meth .append (.v 3) (.cons (.v 4) .nil))) .nil))) (.cons (.ret (.comp [] (.bi .list (.cons (.v 0) .nil)) (.e (.v 3)) .nil)) .nil))))
theorem bn5:g6 tab "history" 47 (e9 pq 47) ["form","years","taken","found","earlier","pairs","truths"] as3 3=true:=by decide +kernel
theorem bK0(N:Nm g){a0 a1 a2:V}(h:wSs g d q as3 [some a0,some a1,some a2,none,none,none,none] Y (e8 Q) (xK X)):c7 g (d+1) q "history" [a0,a1,a2] Y Q X:=g8 N.tab N.prog bn5 (λz_ z_ z_=>vs3 λz_ z_ z_=>rfl) rfl h
noncomputable def at7:ISs:=(.cons (.asg 1 (.lst (.cons (.lst .nil) .nil))) (.cons (.loop 2 (.r1 (.v 0)) (.cons (.asg 3 (.lst .nil)) (.cons (.loop 4 (.e (.v 1)) (.cons (.expr (.meth .append (.v 3) (.cons (.bin .Add (.v 4) (.lst (.cons (.k (.bool false)) .nil))) .nil))) (.cons (.expr (.meth .append (.v 3) (.cons (.bin .Add (.v 4) (.lst (.cons (.k (.bool true)) .nil))) .nil))) .nil))) (.cons (.asg 1 (.v 3)) .nil)))) (.cons (.ret (.v 1)) .nil)))
theorem bW1:g6 tab "truths_of" 50 (e9 pq 50) ["size","found","turn","more","row"] at7 1=true:=by decide +kernel
theorem bA1(N:Nm g){a0:V}(h:wSs g d q at7 [some a0,none,none,none,none] Y (e8 Q) (xK X)):c7 g (d+1) q "truths_of" [a0] Y Q X:=g8 N.tab N.prog bW1 (λz_ z_ z_=>vs1 λz_=>rfl) rfl h
noncomputable def aJ6:ISs:=(.cons (.ret (.bi .tuple (.cons (.comp [1,0] (.bi .tuple (.cons (.slc (.v 2) (.bin .Mult (.v 0) (.v 1)) (.bin .Mult (.bin .Add (.v 0) (.k (.int 1))) (.v 1))) .nil)) (.r1 (.v 2)) .nil) .nil))) .nil)
theorem bI2:g6 tab "rows_of" 51 (e9 pq 51) ["truths","count","many"] aJ6 3=true:=by decide +kernel
theorem ci8(N:Nm g){a0 a1 a2:V}(h:wSs g d q aJ6 [some a0,some a1,some a2] Y (e8 Q) (xK X)):c7 g (d+1) q "rows_of" [a0,a1,a2] Y Q X:=g8 N.tab N.prog bI2 (λz_ z_ z_=>vs3 λz_ z_ z_=>rfl) rfl h
noncomputable def aH6:ISs:=(.cons (.asg 6 (.call "rows_of" (.cons (.v 5) (.cons (.v 2) (.cons (.v 3) .nil))))) (.cons (.expr (.meth .append (.v 4) (.cons (.tup (.cons (.v 6) (.cons (.bi .sum (.cons (.comp [0] (.itm (.v 0) (.itk (.v 1) 3)) (.e (.call "history" (.cons (.v 0) (.cons (.v 1) (.cons (.v 6) .nil))))) .nil) .nil)) .nil))) .nil))) .nil))
noncomputable def aA3:ISs:=(.cons (.asg 2 (.itk (.v 0) 2)) (.cons (.asg 3 (.bi .len (.cons (.v 1) .nil))) (.cons (.iff (.cmp .Gt (.bin .Mult (.v 2) (.v 3)) (.k (.int 8))) (.cons (.rais "TooMany" (.cons (.k (.str "too many choices")) .nil)) .nil) .nil) (.cons (.asg 4 (.lst .nil)) (.cons (.loop 5 (.e (.call "truths_of" (.cons (.bin .Mult (.v 2) (.v 3)) .nil))) (.stop aH6)) (.cons (.ret (.v 4)) .nil))))))
theorem cj1:g6 tab "sums" 52 (e9 pq 52) ["form","years","count","many","found","truths","rows"] aA3 2=true:=by decide +kernel
theorem bn9(N:Nm g){a0 a1:V}(h:wSs g d q aA3 [some a0,some a1,none,none,none,none,none] Y (e8 Q) (xK X)):c7 g (d+1) q "sums" [a0,a1] Y Q X:=g8 N.tab N.prog cj1 (λz_ z_ z_=>vs2 λz_ z_=>rfl) rfl h
noncomputable def an0:ISs:=(.cons (.asg 2 (.call "sums" (.cons (.v 0) (.cons (.v 1) .nil)))) (.cons (.asg 3 (.itk (.v 2) 0)) (.cons (.loop 4 (.e (.v 2)) (.cons (.iff (.cmp .Lt (.itk (.v 4) 1) (.itk (.v 3) 1)) (.cons (.asg 3 (.v 4)) .nil) .nil) .nil)) (.cons (.ret (.v 3)) .nil))))
theorem bJ2:g6 tab "least" 53 (e9 pq 53) ["form","years","found","best","pair"] an0 2=true:=by decide +kernel
theorem ba1(N:Nm g){a0 a1:V}(h:wSs g d q an0 [some a0,some a1,none,none,none] Y (e8 Q) (xK X)):c7 g (d+1) q "least" [a0,a1] Y Q X:=g8 N.tab N.prog bJ2 (λz_ z_ z_=>vs2 λz_ z_=>rfl) rfl h
noncomputable def au7:ISs:=(.cons (.iff (.cmp .Lt (.v 1) (.bi .len (.cons (.v 0) .nil))) (.cons (.ret (.itm (.v 0) (.v 1))) .nil) .nil) (.cons (.ret (.k (.int 0))) .nil))
theorem bG7:g6 tab "_law_cell_at" 55 (e9 pq 55) ["_law_script","_law_k"] au7 2=true:=by decide +kernel
theorem cf6(N:Nm g){a0 a1:V}(h:wSs g d q au7 [some a0,some a1] Y (e8 Q) (xK X)):c7 g (d+1) q "_law_cell_at" [a0,a1] Y Q X:=g8 N.tab N.prog bG7 (λz_ z_ z_=>vs2 λz_ z_=>rfl) rfl h
noncomputable def aq4:ISs:=(.cons (.ret (.bin .Mod (.bin .Mult (.bin .Add (.v 0) (.bin .Mult (.k (.int 7919)) (.v 1))) (.k (.int 48271))) (.k (.int 2147483647)))) .nil)
theorem bj1:g6 tab "_law_mixed" 56 (e9 pq 56) ["_law_cell","_law_k"] aq4 2=true:=by decide +kernel
theorem bd8(N:Nm g){a0 a1:V}(h:wSs g d q aq4 [some a0,some a1] Y (e8 Q) (xK X)):c7 g (d+1) q "_law_mixed" [a0,a1] Y Q X:=g8 N.tab N.prog bj1 (λz_ z_ z_=>vs2 λz_ z_=>rfl) rfl h
noncomputable def am8:ISs:=(.cons (.seti (.v 0) (.k (.int 0)) (.bin .Mod (.bin .Add (.bin .Mult (.itk (.v 0) 0) (.k (.int 48271))) (.k (.int 11))) (.k (.int 2147483647)))) (.cons (.ret (.bin .Mod (.bin .FloorDiv (.itk (.v 0) 0) (.k (.int 7))) (.v 1))) .nil))
theorem aT2:g6 tab "_law_next" 57 (e9 pq 57) ["_law_state","_law_size"] am8 2=true:=by decide +kernel
theorem bq2(N:Nm g){a0 a1:V}(h:wSs g d q am8 [some a0,some a1] Y (e8 Q) (xK X)):c7 g (d+1) q "_law_next" [a0,a1] Y Q X:=g8 N.tab N.prog aT2 (λz_ z_ z_=>vs2 λz_ z_=>rfl) rfl h
noncomputable def at9:ISs:=(.cons (.ret (.and (.isi (.v 0) .int) (.not (.isi (.v 0) .bool)))) .nil)
theorem bl4:g6 tab "_law_whole" 58 (e9 pq 58) ["_law_found"] at9 1=true:=by decide +kernel
theorem cg8(N:Nm g){a0:V}(h:wSs g d q at9 [some a0] Y (e8 Q) (xK X)):c7 g (d+1) q "_law_whole" [a0] Y Q X:=g8 N.tab N.prog bl4 (λz_ z_ z_=>vs1 λz_=>rfl) rfl h
noncomputable def ar0:ISs:=(.cons (.asg 1 (.call "_law_next" (.cons (.v 0) (.cons (.k (.int 6)) .nil)))) (.cons (.iff (.cmp .Eq (.v 1) (.k (.int 0))) (.cons (.ret (.pick (.cons (.neg (.pw 9 1000000000)) (.cons (.pw 9 1000000000) (.cons (.bin .Sub (.pw 9 1000000000) (.k (.int 1))) (.cons (.bin .Sub (.k (.int 1)) (.pw 9 1000000000)) .nil)))) (.call "_law_next" (.cons (.v 0) (.cons (.k (.int 4)) .nil))))) .nil) .nil) (.cons (.iff (.cmp .Eq (.v 1) (.k (.int 1))) (.cons (.ret (.bin .Sub (.call "_law_next" (.cons (.v 0) (.cons (.k (.int 2000001)) .nil))) (.k (.int 1000000)))) .nil) .nil) (.cons (.ret (.bin .Sub (.call "_law_next" (.cons (.v 0) (.cons (.k (.int 61)) .nil))) (.k (.int 20)))) .nil))))
theorem bM7:g6 tab "_law_number" 59 (e9 pq 59) ["_law_state","_law_kind"] ar0 1=true:=by decide +kernel
theorem ba4(N:Nm g){a0:V}(h:wSs g d q ar0 [some a0,none] Y (e8 Q) (xK X)):c7 g (d+1) q "_law_number" [a0] Y Q X:=g8 N.tab N.prog bM7 (λz_ z_ z_=>vs1 λz_=>rfl) rfl h
noncomputable def ap7:ISs:=(.cons (.expr (.meth .append (.v 3) (.cons (.tup (.cons (.v 2) (.cons (.call "_law_number" (.cons (.v 0) .nil)) (.cons (.v 5) .nil)))) .nil))) (.cons (.asg 2 (.bin .Add (.bin .Add (.v 2) (.k (.int 1))) (.pick (.cons (.call "_law_next" (.cons (.v 0) (.cons (.k (.int 40)) .nil))) (.cons (.call "_law_next" (.cons (.v 0) (.cons (.k (.int 20000)) .nil))) .nil)) (.call "_law_next" (.cons (.v 0) (.cons (.k (.int 2)) .nil)))))) .nil))
noncomputable def ai4:ISs:=(.cons (.asg 3 (.lst .nil)) (.cons (.loop 4 (.r1 (.v 1)) (.cons (.asg 5 (.pick (.cons (.k (.int 0)) (.cons (.k (.int 100)) (.cons (.call "_law_next" (.cons (.v 0) (.cons (.k (.int 101)) .nil))) .nil))) (.call "_law_next" (.cons (.v 0) (.cons (.k (.int 3)) .nil))))) (.stop ap7))) (.cons (.ret (.bi .tuple (.cons (.v 3) .nil))) .nil)))
noncomputable def av7:ISs:=(.cons (.asg 2 (.pick (.cons (.neg (.pw 9 1000000000)) (.cons (.bin .Sub (.call "_law_next" (.cons (.v 0) (.cons (.k (.int 2001)) .nil))) (.k (.int 1000))) (.cons (.bin .Sub (.pw 9 1000000000) (.bin .Mult (.k (.int 20000)) (.v 1))) .nil))) (.bin .FloorDiv (.call "_law_next" (.cons (.v 0) (.cons (.k (.int 12)) .nil))) (.k (.int 5))))) (.stop ai4))
noncomputable def au8:ISs:=(.cons (.asg 1 (.bin .Add (.k (.int 1)) (.call "_law_next" (.cons (.v 0) (.cons (.k (.int 4)) .nil))))) (.cons (.iff (.cmp .Eq (.call "_law_next" (.cons (.v 0) (.cons (.k (.int 8)) .nil))) (.k (.int 1))) (.cons (.asg 1 (.bin .Add (.k (.int 5)) (.call "_law_next" (.cons (.v 0) (.cons (.k (.int 16)) .nil))))) .nil) .nil) (.stop av7)))
theorem bA5:g6 tab "_law_table" 60 (e9 pq 60) ["_law_state","_law_many","_law_start","_law_rows","_law_k","_law_percent"] au8 1=true:=by decide +kernel
theorem bw4(N:Nm g){a0:V}(h:wSs g d q au8 [some a0,none,none,none,none,none] Y (e8 Q) (xK X)):c7 g (d+1) q "_law_table" [a0] Y Q X:=g8 N.tab N.prog bA5 (λz_ z_ z_=>vs1 λz_=>rfl) rfl h
noncomputable def aw9:ISs:=(.cons (.asg 1 (.k (.str "abcdefghijklmnopqrstuvwxyz"))) (.cons (.asg 2 (.k (.str ""))) (.cons (.loop 3 (.r1 (.k (.int 8))) (.cons (.asg 2 (.bin .Add (.v 2) (.itm (.v 1) (.call "_law_next" (.cons (.v 0) (.cons (.k (.int 26)) .nil)))))) .nil)) (.cons (.asg 4 (.lst (.cons (.slc (.v 2) (.k .none) (.bin .Add (.k (.int 1)) (.call "_law_next" (.cons (.v 0) (.cons (.k (.int 8)) .nil))))) (.cons (.v 2) .nil)))) (.cons (.loop 3 (.r1 (.k (.int 3))) (.cons (.asg 5 (.call "_law_next" (.cons (.v 0) (.cons (.k (.int 8)) .nil)))) (.cons (.expr (.meth .append (.v 4) (.cons (.bin .Add (.bin .Add (.slc (.v 2) (.k .none) (.v 5)) (.itm (.v 1) (.call "_law_next" (.cons (.v 0) (.cons (.k (.int 26)) .nil))))) (.slc (.v 2) (.bin .Add (.v 5) (.k (.int 1))) (.bin .Add (.bin .Add (.k (.int 1)) (.v 5)) (.call "_law_next" (.cons (.v 0) (.cons (.k (.int 8)) .nil)))))) .nil))) .nil))) (.cons (.ret (.bin .Add (.v 4) (.slc (.lst (.cons (.k (.str "line")) (.cons (.k (.str "paper")) (.cons (.k (.str "add")) .nil)))) (.k .none) (.call "_law_next" (.cons (.v 0) (.cons (.k (.int 4)) .nil)))))) .nil))))))
theorem aZ0:g6 tab "_law_words" 61 (e9 pq 61) ["_law_state","_law_letters","_law_base","_law_k","_law_words_here","_law_at_here"] aw9 1=true:=by decide +kernel
theorem aW3(N:Nm g){a0:V}(h:wSs g d q aw9 [some a0,none,none,none,none,none] Y (e8 Q) (xK X)):c7 g (d+1) q "_law_words" [a0] Y Q X:=g8 N.tab N.prog aZ0 (λz_ z_ z_=>vs1 λz_=>rfl) rfl h
noncomputable def aH2:ISs:=(.cons (.asg 4 (.call "_law_next" (.cons (.v 0) (.cons (.k (.int 5)) .nil)))) (.cons (.iff (.cmp .Eq (.v 4) (.k (.int 0))) (.cons (.ret (.tup (.cons (.k (.str "number")) (.cons (.call "_law_number" (.cons (.v 0) .nil)) .nil)))) .nil) .nil) (.cons (.iff (.and (.cmp .Lt (.v 4) (.k (.int 3))) (.cmp .Gt (.bi .len (.cons (.v 1) .nil)) (.k (.int 0)))) (.cons (.ret (.tup (.cons (.k (.str "line")) (.cons (.itm (.v 1) (.call "_law_next" (.cons (.v 0) (.cons (.bi .len (.cons (.v 1) .nil)) .nil)))) .nil)))) .nil) .nil) (.cons (.iff (.cmp .Eq (.v 4) (.k (.int 3))) (.cons (.ret (.tup (.cons (.k (.str "earlier")) (.cons (.call "_law_next" (.cons (.v 0) (.cons (.itk (.v 2) 0) .nil))) .nil)))) .nil) .nil) (.cons (.ret (.tup (.cons (.k (.str "paper")) (.cons (.itm (.v 3) (.call "_law_next" (.cons (.v 0) (.cons (.bi .len (.cons (.v 3) .nil)) .nil)))) .nil)))) .nil)))))
theorem bq9:g6 tab "_law_plain" 62 (e9 pq 62) ["_law_state","_law_seen","_law_sizes_here","_law_words_here","_law_kind"] aH2 4=true:=by decide +kernel
theorem bk8(N:Nm g){a0 a1 a2 a3:V}(h:wSs g d q aH2 [some a0,some a1,some a2,some a3,none] Y (e8 Q) (xK X)):c7 g (d+1) q "_law_plain" [a0,a1,a2,a3] Y Q X:=g8 N.tab N.prog bq9 (λz_ z_ z_=>vs4 λz_ z_ z_ z_=>rfl) rfl h
noncomputable def aG0:ISs:=(.cons (.asg 5 (.call "_law_next" (.cons (.v 0) (.cons (.k (.int 12)) .nil)))) (.cons (.iff (.or (.cmp .Lt (.v 1) (.k (.int 2))) (.cmp .Lt (.v 5) (.k (.int 2)))) (.cons (.ret (.call "_law_plain" (.cons (.v 0) (.cons (.v 2) (.cons (.v 3) (.cons (.v 4) .nil)))))) .nil) .nil) (.cons (.asg 6 (.call "_law_rule" (.cons (.v 0) (.cons (.bin .Sub (.v 1) (.k (.int 1))) (.cons (.v 2) (.cons (.v 3) (.cons (.v 4) .nil))))))) (.cons (.iff (.cmp .Eq (.v 5) (.k (.int 6))) (.cons (.ret (.tup (.cons (.k (.str "part")) (.cons (.v 6) (.cons (.pick (.cons (.k (.int 0)) (.cons (.k (.int 100)) (.cons (.call "_law_next" (.cons (.v 0) (.cons (.k (.int 101)) .nil))) .nil))) (.call "_law_next" (.cons (.v 0) (.cons (.k (.int 3)) .nil)))) .nil))))) .nil) .nil) (.cons (.iff (.and (.cmp .Eq (.v 5) (.k (.int 7))) (.cmp .Gt (.itk (.v 3) 1) (.k (.int 0)))) (.cons (.ret (.tup (.cons (.k (.str "table")) (.cons (.call "_law_next" (.cons (.v 0) (.cons (.itk (.v 3) 1) .nil))) (.cons (.v 6) .nil))))) .nil) .nil) (.cons (.iff (.cmp .Eq (.v 5) (.k (.int 7))) (.cons (.ret (.v 6)) .nil) .nil) (.cons (.asg 7 (.call "_law_rule" (.cons (.v 0) (.cons (.bi .min (.cons (.bin .Sub (.v 1) (.k (.int 1))) (.cons (.k (.int 2)) .nil))) (.cons (.v 2) (.cons (.v 3) (.cons (.v 4) .nil))))))) (.cons (.iff (.cmp .Eq (.call "_law_next" (.cons (.v 0) (.cons (.k (.int 2)) .nil))) (.k (.int 1))) (.cons (.swap 6 7 (.v 7) (.v 6)) .nil) .nil) (.cons (.iff (.cmp .Lt (.v 5) (.k (.int 6))) (.cons (.ret (.tup (.cons (.pick (.cons (.k (.str "add")) (.cons (.k (.str "take")) (.cons (.k (.str "least")) (.cons (.k (.str "most")) .nil)))) (.bin .Sub (.v 5) (.k (.int 2)))) (.cons (.v 6) (.cons (.v 7) .nil))))) .nil) .nil) (.cons (.iff (.cmp .Lt (.v 5) (.k (.int 10))) (.cons (.ret (.tup (.cons (.k (.str "where")) (.cons (.v 6) (.cons (.v 7) (.cons (.call "_law_rule" (.cons (.v 0) (.cons (.bi .min (.cons (.bin .Sub (.v 1) (.k (.int 1))) (.cons (.k (.int 2)) .nil))) (.cons (.v 2) (.cons (.v 3) (.cons (.v 4) .nil)))))) .nil)))))) .nil) .nil) (.cons (.iff (.cmp .Gt (.itk (.v 3) 2) (.k (.int 0))) (.cons (.ret (.tup (.cons (.k (.str "choose")) (.cons (.call "_law_next" (.cons (.v 0) (.cons (.itk (.v 3) 2) .nil))) (.cons (.v 6) (.cons (.v 7) .nil)))))) .nil) .nil) (.cons (.ret (.tup (.cons (.k (.str "take")) (.cons (.v 7) (.cons (.v 6) .nil))))) .nil))))))))))))
theorem cf4:g6 tab "_law_rule" 63 (e9 pq 63) ["_law_state","_law_deep","_law_seen","_law_sizes_here","_law_words_here","_law_kind","_law_one","_law_other"] aG0 5=true:=by decide +kernel
theorem bI7(N:Nm g){a0 a1 a2 a3 a4:V}(h:wSs g d q aG0 [some a0,some a1,some a2,some a3,some a4,none,none,none] Y (e8 Q) (xK X)):c7 g (d+1) q "_law_rule" [a0,a1,a2,a3,a4] Y Q X:=g8 N.tab N.prog cf4 (λz_ z_ z_=>vs5 λz_ z_ z_ z_ z_=>rfl) rfl h
noncomputable def au2:ISs:=(.cons (.asg 4 (.bin .Mod (.bin .FloorDiv (.v 0) (.k (.int 88128))) (.k (.int 4)))) (.cons (.iff (.cmp .Eq (.bin .Mod (.bin .FloorDiv (.v 0) (.k (.int 352512))) (.k (.int 8))) (.k (.int 1))) (.cons (.asg 4 (.bin .Add (.k (.int 4)) (.bin .Mod (.bin .FloorDiv (.v 0) (.k (.int 2820096))) (.k (.int 5))))) .nil) .nil) (.cons (.ret (.tup (.cons (.v 2) (.cons (.v 3) (.cons (.v 4) .nil))))) .nil)))
noncomputable def aD9:ISs:=(.cons (.asg 3 (.bin .Mod (.bin .FloorDiv (.v 0) (.k (.int 1224))) (.k (.int 3)))) (.cons (.iff (.cmp .Eq (.bin .Mod (.bin .FloorDiv (.v 0) (.k (.int 3672))) (.k (.int 8))) (.k (.int 1))) (.cons (.asg 3 (.bin .Add (.k (.int 3)) (.bin .Mod (.bin .FloorDiv (.v 0) (.k (.int 29376))) (.k (.int 3))))) .nil) .nil) (.stop au2)))
noncomputable def aK0:ISs:=(.cons (.asg 2 (.bin .Add (.k (.int 1)) (.bin .Mod (.v 0) (.k (.int 6))))) (.cons (.iff (.cmp .Eq (.bin .Mod (.bin .FloorDiv (.v 0) (.k (.int 6))) (.k (.int 6))) (.k (.int 1))) (.cons (.asg 2 (.bin .Add (.k (.int 7)) (.bin .Mod (.bin .FloorDiv (.v 0) (.k (.int 36))) (.bin .Sub (.v 1) (.k (.int 6)))))) .nil) .nil) (.stop aD9)))
theorem bn6:g6 tab "_law_sizes" 64 (e9 pq 64) ["_law_cell","_law_most","_law_many","_law_tables","_law_choices_here"] aK0 2=true:=by decide +kernel
theorem bW6(N:Nm g){a0 a1:V}(h:wSs g d q aK0 [some a0,some a1,none,none,none] Y (e8 Q) (xK X)):c7 g (d+1) q "_law_sizes" [a0,a1] Y Q X:=g8 N.tab N.prog bn6 (λz_ z_ z_=>vs2 λz_ z_=>rfl) rfl h
noncomputable def aD2:ISs:=(.cons (.asg 2 (.lrng (.v 1))) (.cons (.asg 3 (.lst .nil)) (.cons (.whil (.cmp .Gt (.bi .len (.cons (.v 2) .nil)) (.k (.int 0))) (.cons (.expr (.meth .append (.v 3) (.cons (.meth .pop (.v 2) (.cons (.call "_law_next" (.cons (.v 0) (.cons (.bi .len (.cons (.v 2) .nil)) .nil))) .nil)) .nil))) .nil)) (.cons (.ret (.v 3)) .nil))))
theorem bd6:g6 tab "_law_order" 65 (e9 pq 65) ["_law_state","_law_many","_law_left","_law_found"] aD2 2=true:=by decide +kernel
theorem bX8(N:Nm g){a0 a1:V}(h:wSs g d q aD2 [some a0,some a1,none,none] Y (e8 Q) (xK X)):c7 g (d+1) q "_law_order" [a0,a1] Y Q X:=g8 N.tab N.prog bd6 (λz_ z_ z_=>vs2 λz_ z_=>rfl) rfl h
noncomputable def av8:ISs:=(.cons (.asg 9 (.comp [2] (.call "_law_table" (.cons (.v 1) .nil)) (.r1 (.itk (.v 3) 1)) .nil)) (.cons (.ret (.lst (.cons (.v 5) (.cons (.v 9) (.cons (.itk (.v 3) 2) (.cons (.call "_law_next" (.cons (.v 2) (.cons (.itk (.v 3) 0) .nil))) (.cons (.v 4) .nil))))))) .nil))
noncomputable def aN9:ISs:=(.cons (.seti (.v 5) (.v 7) (.call "_law_rule" (.cons (.v 2) (.cons (.v 8) (.cons (.bi .list (.cons (.v 6) .nil)) (.cons (.v 3) (.cons (.v 4) .nil))))))) (.cons (.expr (.meth .append (.v 6) (.cons (.v 7) .nil))) .nil))
noncomputable def aD5:ISs:=(.cons (.asg 2 (.lst (.cons (.call "_law_mixed" (.cons (.call "_law_cell_at" (.cons (.v 0) (.cons (.k (.int 0)) .nil))) (.cons (.k (.int 1)) .nil))) .nil))) (.cons (.asg 3 (.call "_law_sizes" (.cons (.call "_law_mixed" (.cons (.call "_law_cell_at" (.cons (.v 0) (.cons (.k (.int 1)) .nil))) (.cons (.k (.int 2)) .nil))) (.cons (.v 1) .nil)))) (.cons (.asg 4 (.call "_law_words" (.cons (.v 2) .nil))) (.cons (.asg 5 (.bin .Mult (.lst (.cons (.tup (.cons (.k (.str "number")) (.cons (.k (.int 0)) .nil))) .nil)) (.itk (.v 3) 0))) (.cons (.asg 6 (.lst .nil)) (.cons (.loop 7 (.e (.call "_law_order" (.cons (.v 2) (.cons (.itk (.v 3) 0) .nil)))) (.cons (.asg 8 (.bin .Add (.k (.int 1)) (.call "_law_next" (.cons (.v 2) (.cons (.k (.int 3)) .nil))))) (.cons (.iff (.cmp .Eq (.call "_law_next" (.cons (.v 2) (.cons (.k (.int 12)) .nil))) (.k (.int 1))) (.cons (.asg 8 (.bin .Add (.k (.int 4)) (.call "_law_next" (.cons (.v 2) (.cons (.k (.int 5)) .nil))))) .nil) .nil) (.stop aN9)))) (.stop av8)))))))
theorem bH7:g6 tab "_law_form" 66 (e9 pq 66) ["_law_script","_law_most","_law_state","_law_sizes_here","_law_words_here","_law_lines","_law_seen","_law_line","_law_deep","_law_tables"] aD5 2=true:=by decide +kernel
theorem aT6(N:Nm g){a0 a1:V}(h:wSs g d q aD5 [some a0,some a1,none,none,none,none,none,none,none,none] Y (e8 Q) (xK X)):c7 g (d+1) q "_law_form" [a0,a1] Y Q X:=g8 N.tab N.prog bH7 (λz_ z_ z_=>vs2 λz_ z_=>rfl) rfl h
noncomputable def aI8:ISs:=(.cons (.loop 3 (.e (.slc (.v 0) (.k (.int 1)) (.k .none))) (.cons (.iff (.isi (.v 3) .tuple) (.cons (.asg 2 (.bin .Add (.v 2) (.comp [2] (.v 0) (.e (.call "_law_named" (.cons (.v 3) (.cons (.v 1) .nil)))) (.cons (.cmp .NotIn (.v 0) (.v 1)) .nil)))) .nil) .nil) (.drop .nil))) (.cons (.ret (.bi .sorted (.cons (.v 2) .nil))) .nil))
noncomputable def aF2:ISs:=(.cons (.asg 2 (.lst .nil)) (.cons (.iff (.cmp .Eq (.itk (.v 0) 0) (.v 1)) (.cons (.expr (.meth .append (.v 2) (.cons (.itk (.v 0) 1) .nil))) .nil) .nil) (.stop aI8)))
theorem aW5:g6 tab "_law_named" 67 (e9 pq 67) ["_law_rule_here","_law_word","_law_found","_law_one"] aF2 2=true:=by decide +kernel
theorem bL1(N:Nm g){a0 a1:V}(h:wSs g d q aF2 [some a0,some a1,none,none] Y (e8 Q) (xK X)):c7 g (d+1) q "_law_named" [a0,a1] Y Q X:=g8 N.tab N.prog aW5 (λz_ z_ z_=>vs2 λz_ z_=>rfl) rfl h
noncomputable def av0:ISs:=(.cons (.asg 2 (.k (.int 0))) (.cons (.loop 3 (.e (.v 0)) (.cons (.iff (.cmp .GtE (.v 1) (.itk (.v 3) 0)) (.cons (.asg 2 (.bin .Add (.itk (.v 3) 1) (.bin .FloorDiv (.bin .Mult (.bin .Sub (.v 1) (.itk (.v 3) 0)) (.itk (.v 3) 2)) (.k (.int 100))))) .nil) .nil) .nil)) (.cons (.ret (.v 2)) .nil)))
theorem bI8:g6 tab "_law_at" 68 (e9 pq 68) ["_law_table_here","_law_number_here","_law_found","_law_row_here"] av0 2=true:=by decide +kernel
theorem bd0(N:Nm g){a0 a1:V}(h:wSs g d q av0 [some a0,some a1,none,none] Y (e8 Q) (xK X)):c7 g (d+1) q "_law_at" [a0,a1] Y Q X:=g8 N.tab N.prog bI8 (λz_ z_ z_=>vs2 λz_ z_=>rfl) rfl h
noncomputable def aM3:ISs:=(.cons (.asg 2 (.itk (.v 0) 0)) (.cons (.iff (.cmp .Eq (.v 2) (.k (.str "number"))) (.cons (.ret (.itk (.v 0) 1)) .nil) .nil) (.cons (.iff (.cmp .Eq (.v 2) (.k (.str "paper"))) (.cons (.ret (.dg2 (.bi .dict (.cons (.itk (.v 1) 1) .nil)) (.itk (.v 0) 1) (.k (.int 0)))) .nil) .nil) (.cons (.iff (.inl false (.v 2) (.cons (.k (.str "line")) (.cons (.k (.str "earlier")) .nil))) (.cons (.asg 3 (.itm (.v 1) (.bin .Mult (.k (.int 2)) (.bi .int (.cons (.cmp .Eq (.v 2) (.k (.str "earlier"))) .nil))))) (.cons (.ret (.bi .sum (.cons (.slc (.v 3) (.itk (.v 0) 1) (.bin .Add (.itk (.v 0) 1) (.k (.int 1)))) .nil))) .nil)) .nil) (.cons (.iff (.cmp .Eq (.v 2) (.k (.str "table"))) (.cons (.ret (.call "_law_at" (.cons (.itm (.itk (.v 1) 3) (.itk (.v 0) 1)) (.cons (.call "_law_value" (.cons (.itk (.v 0) 2) (.cons (.v 1) .nil))) .nil)))) .nil) .nil) (.cons (.iff (.cmp .Eq (.v 2) (.k (.str "part"))) (.cons (.ret (.bin .FloorDiv (.bin .Mult (.call "_law_value" (.cons (.itk (.v 0) 1) (.cons (.v 1) .nil))) (.itk (.v 0) 2)) (.k (.int 100)))) .nil) .nil) (.cons (.iff (.cmp .Eq (.v 2) (.k (.str "choose"))) (.cons (.ret (.call "_law_value" (.cons (.itm (.v 0) (.bin .Add (.k (.int 2)) (.bi .int (.cons (.itm (.itk (.v 1) 4) (.itk (.v 0) 1)) .nil)))) (.cons (.v 1) .nil)))) .nil) .nil) (.cons (.asg 4 (.call "_law_value" (.cons (.itk (.v 0) 1) (.cons (.v 1) .nil)))) (.cons (.asg 5 (.call "_law_value" (.cons (.itk (.v 0) 2) (.cons (.v 1) .nil)))) (.cons (.iff (.cmp .Eq (.v 2) (.k (.str "where"))) (.cons (.ret (.pick (.cons (.call "_law_value" (.cons (.itk (.v 0) 3) (.cons (.v 1) .nil))) (.cons (.v 5) .nil)) (.bi .int (.cons (.cmp .Gt (.v 4) (.k (.int 0))) .nil)))) .nil) .nil) (.cons (.ret (.itm (.dik ["add","take","least","most"] (.cons (.bin .Add (.v 4) (.v 5)) (.cons (.bin .Sub (.v 4) (.v 5)) (.cons (.bi .min (.cons (.v 4) (.cons (.v 5) .nil))) (.cons (.bi .max (.cons (.v 4) (.cons (.v 5) .nil))) .nil))))) (.v 2))) .nil)))))))))))
theorem bA2:g6 tab "_law_value" 69 (e9 pq 69) ["_law_rule_here","_law_sight","_law_word","_law_values","_law_one","_law_other"] aM3 2=true:=by decide +kernel
theorem aP2(N:Nm g){a0 a1:V}(h:wSs g d q aM3 [some a0,some a1,none,none,none,none] Y (e8 Q) (xK X)):c7 g (d+1) q "_law_value" [a0,a1] Y Q X:=g8 N.tab N.prog bA2 (λz_ z_ z_=>vs2 λz_ z_=>rfl) rfl h
noncomputable def av3:ISs:=(.cons (.asg 2 (.lst .nil)) (.cons (.loop 3 (.e (.v 1)) (.cons (.iff (.and (.cmp .Gt (.call "_law_next" (.cons (.v 0) (.cons (.k (.int 3)) .nil))) (.k (.int 0))) (.cmp .NotIn (.v 3) (.comp [] (.itk (.v 0) 0) (.e (.v 2)) .nil))) (.cons (.expr (.meth .append (.v 2) (.cons (.tup (.cons (.v 3) (.cons (.call "_law_number" (.cons (.v 0) .nil)) .nil))) .nil))) .nil) .nil) .nil)) (.cons (.ret (.v 2)) .nil)))
theorem bw2:g6 tab "_law_papers" 70 (e9 pq 70) ["_law_state","_law_words_here","_law_found","_law_word"] av3 2=true:=by decide +kernel
theorem aV3(N:Nm g){a0 a1:V}(h:wSs g d q av3 [some a0,some a1,none,none] Y (e8 Q) (xK X)):c7 g (d+1) q "_law_papers" [a0,a1] Y Q X:=g8 N.tab N.prog bw2 (λz_ z_ z_=>vs2 λz_ z_=>rfl) rfl h
noncomputable def aF3:ISs:=(.cons (.asg 1 (.bin .Add (.bin .Add (.bi .int (.cons (.isx (.v 0) "NoTable" ["NoTable"] ["NoForm","Ring","NoPaper","NoChoice","TooMany","NoRule"]) .nil)) (.bi .int (.cons (.isx (.v 0) "NoForm" ["NoForm"] ["NoTable","Ring","NoPaper","NoChoice","TooMany","NoRule"]) .nil))) (.bi .int (.cons (.isx (.v 0) "NoRule" ["NoRule"] ["NoTable","NoForm","Ring","NoPaper","NoChoice","TooMany"]) .nil)))) (.cons (.asg 1 (.bin .Add (.bin .Add (.bin .Add (.v 1) (.bi .int (.cons (.isx (.v 0) "Ring" ["Ring"] ["NoTable","NoForm","NoPaper","NoChoice","TooMany","NoRule"]) .nil))) (.bi .int (.cons (.isx (.v 0) "NoPaper" ["NoPaper"] ["NoTable","NoForm","Ring","NoChoice","TooMany","NoRule"]) .nil))) (.bi .int (.cons (.isx (.v 0) "NoYear" [] ["NoTable","NoForm","Ring","NoPaper","NoChoice","TooMany","NoRule"]) .nil)))) (.cons (.asg 1 (.bin .Add (.bin .Add (.bin .Add (.v 1) (.bi .int (.cons (.isx (.v 0) "NoLine" [] ["NoTable","NoForm","Ring","NoPaper","NoChoice","TooMany","NoRule"]) .nil))) (.bi .int (.cons (.isx (.v 0) "NoChoice" ["NoChoice"] ["NoTable","NoForm","Ring","NoPaper","TooMany","NoRule"]) .nil))) (.bi .int (.cons (.isx (.v 0) "TooMany" ["TooMany"] ["NoTable","NoForm","Ring","NoPaper","NoChoice","NoRule"]) .nil)))) (.cons (.ret (.and (.cmp .Eq (.v 1) (.k (.int 1))) (.isx (.v 0) "ValueError" ["NoTable","NoForm","Ring","NoPaper","NoChoice","TooMany","NoRule"] []))) .nil))))
theorem bk3:g6 tab "_law_alone" 72 (e9 pq 72) ["_law_e","_law_many"] aF3 1=true:=by decide +kernel
theorem bj2(N:Nm g){a0:V}(h:wSs g d q aF3 [some a0,none] Y (e8 Q) (xK X)):c7 g (d+1) q "_law_alone" [a0] Y Q X:=g8 N.tab N.prog bk3 (λz_ z_ z_=>vs1 λz_=>rfl) rfl h
noncomputable def aG1:ISs:=(.cons (.asg 5 (.bin .Mult (.lst (.cons (.k (.int 0)) .nil)) (.bi .len (.cons (.v 1) .nil)))) (.cons (.asg 6 (.tup (.cons (.v 5) (.cons (.v 2) (.cons (.v 3) (.cons (.itk (.v 0) 1) (.cons (.v 4) .nil))))))) (.cons (.loop 7 (.e (.v 1)) (.cons (.seti (.v 5) (.v 7) (.call "_law_value" (.cons (.itm (.itk (.v 0) 0) (.v 7)) (.cons (.v 6) .nil)))) .nil)) (.cons (.ret (.v 5)) .nil))))
theorem aO6:g6 tab "_law_reckoned" 73 (e9 pq 73) ["_law_form_here","_law_row_here","_law_pairs","_law_earlier","_law_taken_here","_law_lines","_law_sight","_law_line"] aG1 5=true:=by decide +kernel
theorem bQ1(N:Nm g){a0 a1 a2 a3 a4:V}(h:wSs g d q aG1 [some a0,some a1,some a2,some a3,some a4,none,none,none] Y (e8 Q) (xK X)):c7 g (d+1) q "_law_reckoned" [a0,a1,a2,a3,a4] Y Q X:=g8 N.tab N.prog aO6 (λz_ z_ z_=>vs5 λz_ z_ z_ z_ z_=>rfl) rfl h
noncomputable def av2:ISs:=(.cons (.asg 1 (.lst .nil)) (.cons (.whil (.cmp .Lt (.bi .len (.cons (.v 1) .nil)) (.bi .len (.cons (.v 0) .nil))) (.cons (.loop 2 (.r1 (.bi .len (.cons (.v 0) .nil))) (.cons (.asg 3 (.comp [1] (.v 0) (.e (.call "_law_named" (.cons (.itm (.v 0) (.v 2)) (.cons (.k (.str "line")) .nil)))) (.cons (.cmp .NotIn (.v 0) (.v 1)) .nil))) (.cons (.iff (.and (.cmp .NotIn (.v 2) (.v 1)) (.cmp .Eq (.v 3) (.lst .nil))) (.cons (.expr (.meth .append (.v 1) (.cons (.v 2) .nil))) .nil) .nil) .nil))) .nil)) (.cons (.ret (.v 1)) .nil)))
theorem bB4:g6 tab "_law_row" 74 (e9 pq 74) ["_law_lines","_law_row_here","_law_line","_law_waits"] av2 1=true:=by decide +kernel
theorem bG2(N:Nm g){a0:V}(h:wSs g d q av2 [some a0,none,none,none] Y (e8 Q) (xK X)):c7 g (d+1) q "_law_row" [a0] Y Q X:=g8 N.tab N.prog bB4 (λz_ z_ z_=>vs1 λz_=>rfl) rfl h
noncomputable def au5:ISs:=(.cons (.asg 4 (.k (.int 0))) (.cons (.asg 5 (.lst .nil)) (.cons (.loopz [6,7] (.cons (.v 2) (.cons (.v 3) .nil)) (.cons (.asg 5 (.call "_law_reckoned" (.cons (.v 0) (.cons (.v 1) (.cons (.v 6) (.cons (.v 5) (.cons (.v 7) .nil))))))) (.cons (.asg 4 (.bin .Add (.v 4) (.itm (.v 5) (.itk (.v 0) 3)))) .nil))) (.cons (.ret (.v 4)) .nil))))
theorem bl9:g6 tab "_law_sum" 75 (e9 pq 75) ["_law_form_here","_law_row_here","_law_years","_law_taken_here","_law_total","_law_earlier","_law_pairs","_law_choices_here"] au5 4=true:=by decide +kernel
theorem by5(N:Nm g){a0 a1 a2 a3:V}(h:wSs g d q au5 [some a0,some a1,some a2,some a3,none,none,none,none] Y (e8 Q) (xK X)):c7 g (d+1) q "_law_sum" [a0,a1,a2,a3] Y Q X:=g8 N.tab N.prog bl9 (λz_ z_ z_=>vs4 λz_ z_ z_ z_=>rfl) rfl h
noncomputable def az2:ISs:=(.cons (.asg 3 (.lst .nil)) (.cons (.loop 4 (.r1 (.bin .Mult (.v 1) (.v 2))) (.cons (.asg 3 (.bin .Add (.lst (.cons (.cmp .Eq (.bin .Mod (.v 0) (.k (.int 2))) (.k (.int 1))) .nil)) (.v 3))) (.cons (.asg 0 (.bin .FloorDiv (.v 0) (.k (.int 2)))) .nil))) (.cons (.ret (.bi .tuple (.cons (.comp [1,3] (.bi .tuple (.cons (.slc (.v 2) (.bin .Mult (.v 0) (.v 1)) (.bin .Add (.bin .Mult (.v 0) (.v 1)) (.v 1))) .nil)) (.r1 (.v 2)) .nil) .nil))) .nil)))
theorem bZ0:g6 tab "_law_choices" 76 (e9 pq 76) ["_law_number_here","_law_choices_here","_law_count","_law_truths","_law_k"] az2 3=true:=by decide +kernel
theorem bc1(N:Nm g){a0 a1 a2:V}(h:wSs g d q az2 [some a0,some a1,some a2,none,none] Y (e8 Q) (xK X)):c7 g (d+1) q "_law_choices" [a0,a1,a2] Y Q X:=g8 N.tab N.prog bZ0 (λz_ z_ z_=>vs3 λz_ z_ z_=>rfl) rfl h
noncomputable def ax3:ISs:=(.cons (.asg 7 (.call "_law_choices" (.cons (.v 6) (.cons (.itk (.v 0) 2) (.cons (.bi .len (.cons (.v 1) .nil)) .nil))))) (.cons (.expr (.meth .append (.v 3) (.cons (.tup (.cons (.v 7) (.cons (.call "_law_sum" (.cons (.v 0) (.cons (.v 2) (.cons (.v 1) (.cons (.v 7) .nil))))) .nil))) .nil))) .nil))
noncomputable def bn1:ISs:=(.cons (.loop 6 (.r1 (.v 4)) (.stop ax3)) (.cons (.ret (.v 3)) .nil))
noncomputable def as2:ISs:=(.cons (.asg 2 (.call "_law_row" (.cons (.itk (.v 0) 0) .nil))) (.cons (.asg 3 (.lst .nil)) (.cons (.asg 4 (.k (.int 1))) (.cons (.loop 5 (.r1 (.bin .Mult (.itk (.v 0) 2) (.bi .len (.cons (.v 1) .nil)))) (.cons (.asg 4 (.bin .Mult (.v 4) (.k (.int 2)))) .nil)) (.stop bn1)))))
theorem bq4:g6 tab "_law_all" 77 (e9 pq 77) ["_law_form_here","_law_years","_law_row_here","_law_found","_law_many","_law_k","_law_number_here","_law_taken_here"] as2 2=true:=by decide +kernel
theorem bg6(N:Nm g){a0 a1:V}(h:wSs g d q as2 [some a0,some a1,none,none,none,none,none,none] Y (e8 Q) (xK X)):c7 g (d+1) q "_law_all" [a0,a1] Y Q X:=g8 N.tab N.prog bq4 (λz_ z_ z_=>vs2 λz_ z_=>rfl) rfl h
noncomputable def aq1:ISs:=(.cons (.tri (.cons (.iff (.cmp .Eq (.v 2) (.k (.int 0))) (.cons (.expr (.call "sums" (.cons (.v 0) (.cons (.v 1) .nil)))) .nil) (.cons (.expr (.call "least" (.cons (.v 0) (.cons (.v 1) .nil)))) .nil)) .nil) (.cons "TooMany" ["TooMany"] ["NoTable","NoForm","Ring","NoPaper","NoChoice","NoRule"] none (.cons (.ret (.k (.str "many"))) .nil) (.cons "NoPaper" ["NoPaper"] ["NoTable","NoForm","Ring","NoChoice","TooMany","NoRule"] none (.cons (.ret (.k (.str "paper"))) .nil) .nil))) (.cons (.ret (.k (.str ""))) .nil))
theorem bz7:g6 tab "_law_tried" 78 (e9 pq 78) ["_law_form_here","_law_years","_law_way"] aq1 3=true:=by decide +kernel
theorem bX0(N:Nm g){a0 a1 a2:V}(h:wSs g d q aq1 [some a0,some a1,some a2] Y (e8 Q) (xK X)):c7 g (d+1) q "_law_tried" [a0,a1,a2] Y Q X:=g8 N.tab N.prog bz7 (λz_ z_ z_=>vs3 λz_ z_ z_=>rfl) rfl h
noncomputable def aJ2:ISs:=(.cons (.tri (.cons (.expr (.call "sums" (.cons (.v 0) (.cons (.v 1) .nil)))) .nil) (.cons "FormError" ["NoTable","NoForm","Ring","NoPaper","NoChoice","TooMany","NoRule"] [] (some 2) (.cons (.ret (.call "_law_alone" (.cons (.v 2) .nil))) .nil) .nil)) (.cons (.ret (.k (.bool false))) .nil))
theorem aV0:g6 tab "_law_any" 79 (e9 pq 79) ["_law_form_here","_law_years","_law_e"] aJ2 2=true:=by decide +kernel
theorem aY3(N:Nm g){a0 a1:V}(h:wSs g d q aJ2 [some a0,some a1,none] Y (e8 Q) (xK X)):c7 g (d+1) q "_law_any" [a0,a1] Y Q X:=g8 N.tab N.prog aV0 (λz_ z_ z_=>vs2 λz_ z_=>rfl) rfl h
noncomputable def ar1:ISs:=(.cons (.iff (.or (.cmp .NotEq (.call "_law_tried" (.cons (.v 0) (.cons (.v 1) (.cons (.k (.int 0)) .nil)))) (.v 2)) (.cmp .NotEq (.call "_law_tried" (.cons (.v 0) (.cons (.v 1) (.cons (.k (.int 1)) .nil)))) (.v 2))) (.cons (.ret (.k (.bool false))) .nil) .nil) (.cons (.ret (.call "_law_any" (.cons (.v 0) (.cons (.v 1) .nil)))) .nil))
theorem bm0:g6 tab "_law_refused" 80 (e9 pq 80) ["_law_form_here","_law_years","_law_word"] ar1 3=true:=by decide +kernel
theorem bT2(N:Nm g){a0 a1 a2:V}(h:wSs g d q ar1 [some a0,some a1,some a2] Y (e8 Q) (xK X)):c7 g (d+1) q "_law_refused" [a0,a1,a2] Y Q X:=g8 N.tab N.prog bm0 (λz_ z_ z_=>vs3 λz_ z_ z_=>rfl) rfl h
noncomputable def aI1:ISs:=(.cons (.loop 1 (.e (.v 0)) (.cons (.iff (.or (.not (.isi (.v 1) .tuple)) (.or (.not (.isi (.itk (.v 1) 0) .tuple)) (.not (.call "_law_whole" (.cons (.itk (.v 1) 1) .nil))))) (.cons (.ret (.k (.bool false))) .nil) .nil) (.cons (.loop 2 (.e (.itk (.v 1) 0)) (.cons (.iff (.or (.not (.isi (.v 2) .tuple)) (.cmp .NotEq (.comp [] (.v 0) (.e (.v 2)) (.cons (.not (.isi (.v 0) .bool)) .nil)) (.lst .nil))) (.cons (.ret (.k (.bool false))) .nil) .nil) .nil)) .nil))) (.cons (.ret (.k (.bool true))) .nil))
theorem bN9:g6 tab "_law_kinds" 81 (e9 pq 81) ["_law_found","_law_pair","_law_row_here"] aI1 1=true:=by decide +kernel
theorem bg7(N:Nm g){a0:V}(h:wSs g d q aI1 [some a0,none,none] Y (e8 Q) (xK X)):c7 g (d+1) q "_law_kinds" [a0] Y Q X:=g8 N.tab N.prog bN9 (λz_ z_ z_=>vs1 λz_=>rfl) rfl h
noncomputable def aE4:ISs:=(.cons (.expr (.meth .append (.call "sums" (.cons (.v 6) (.cons (.lst .nil) .nil))) (.cons (.k (.int 7)) .nil))) (.cons (.ret (.and (.cmp .Eq (.v 9) (.v 8)) (.cmp .Eq (.call "sums" (.cons (.v 6) (.cons (.v 7) .nil))) (.v 8)))) .nil))
noncomputable def aF0:ISs:=(.cons (.asg 12 (.call "least" (.cons (.v 6) (.cons (.v 7) .nil)))) (.cons (.iff (.or (.not (.call "_law_kinds" (.cons (.lst (.cons (.v 12) .nil)) .nil))) (.cmp .NotEq (.v 12) (.v 10))) (.cons (.ret (.k (.bool false))) .nil) .nil) (.stop aE4)))
noncomputable def ar8:ISs:=(.cons (.asg 10 (.itk (.v 8) 0)) (.cons (.loop 11 (.e (.v 8)) (.cons (.iff (.cmp .Lt (.itk (.v 11) 1) (.itk (.v 10) 1)) (.cons (.asg 10 (.v 11)) .nil) .nil) .nil)) (.stop aF0)))
noncomputable def as8:ISs:=(.cons (.asg 8 (.call "_law_all" (.cons (.v 6) (.cons (.v 7) .nil)))) (.cons (.asg 9 (.call "sums" (.cons (.v 6) (.cons (.v 7) .nil)))) (.cons (.iff (.or (.not (.isi (.v 9) .list)) (.or (.cmp .NotEq (.v 9) (.v 8)) (.not (.call "_law_kinds" (.cons (.v 9) .nil))))) (.cons (.ret (.k (.bool false))) .nil) .nil) (.stop ar8))))
noncomputable def aF4:ISs:=(.cons (.iff (.cmp .Gt (.bin .Mult (.v 4) (.v 3)) (.k (.int 8))) (.cons (.ret (.call "_law_refused" (.cons (.v 6) (.cons (.v 7) (.cons (.k (.str "many")) .nil))))) .nil) .nil) (.stop as8))
noncomputable def aF5:ISs:=(.cons (.iff (.and (.cmp .Eq (.call "_law_next" (.cons (.v 2) (.cons (.k (.int 9)) .nil))) (.k (.int 1))) (.cmp .Gt (.v 3) (.k (.int 0)))) (.cons (.seti (.v 7) (.bin .Sub (.v 3) (.k (.int 1))) (.lst (.cons (.tup (.cons (.k (.str "A")) (.cons (.k (.int 1)) .nil))) .nil))) (.cons (.ret (.call "_law_refused" (.cons (.v 6) (.cons (.v 7) (.cons (.pick (.cons (.k (.str "paper")) (.cons (.k (.str "many")) .nil)) (.bi .int (.cons (.cmp .Gt (.bin .Mult (.v 4) (.v 3)) (.k (.int 8))) .nil))) .nil))))) .nil)) .nil) (.stop aF4))
noncomputable def an8:ISs:=(.cons (.asg 6 (.call "form_of" (.cons (.v 5) (.cons (.itk (.v 1) 1) (.cons (.v 4) (.cons (.itk (.v 1) 3) .nil)))))) (.drop (.cons (.asg 7 (.comp [1,2] (.call "_law_papers" (.cons (.v 2) (.cons (.itk (.v 1) 4) .nil))) (.r1 (.v 3)) .nil)) (.stop aF5))))
noncomputable def ap9:ISs:=(.cons (.asg 5 (.itk (.v 1) 0)) (.cons (.iff (.and (.cmp .Gt (.v 4) (.k (.int 1))) (.cmp .Eq (.call "_law_next" (.cons (.v 2) (.cons (.k (.int 3)) .nil))) (.k (.int 1)))) (.cons (.seti (.v 5) (.itk (.v 1) 3) (.tup (.cons (.k (.str "choose")) (.cons (.k (.int 0)) (.cons (.tup (.cons (.k (.str "choose")) (.cons (.k (.int 1)) (.cons (.tup (.cons (.k (.str "number")) (.cons (.k (.int 5)) .nil))) (.cons (.tup (.cons (.k (.str "number")) (.cons (.k (.int 3)) .nil))) .nil))))) (.cons (.tup (.cons (.k (.str "number")) (.cons (.k (.int 3)) .nil))) .nil)))))) .nil) .nil) (.stop an8)))
noncomputable def au4:ISs:=(.cons (.asg 1 (.call "_law_form" (.cons (.v 0) (.cons (.k (.int 7)) .nil)))) (.cons (.asg 2 (.lst (.cons (.call "_law_mixed" (.cons (.call "_law_cell_at" (.cons (.v 0) (.cons (.k (.int 2)) .nil))) (.cons (.k (.int 3)) .nil))) .nil))) (.cons (.asg 3 (.call "_law_next" (.cons (.v 2) (.cons (.k (.int 4)) .nil)))) (.cons (.asg 4 (.itk (.v 1) 2)) (.cons (.iff (.cmp .Eq (.call "_law_next" (.cons (.v 2) (.cons (.k (.int 6)) .nil))) (.k (.int 1))) (.cons (.asg 3 (.bin .Add (.k (.int 1)) (.bin .FloorDiv (.k (.int 8)) (.bi .max (.cons (.k (.int 1)) (.cons (.v 4) .nil)))))) .nil) (.cons (.iff (.cmp .Gt (.bin .Mult (.v 4) (.v 3)) (.bin .Add (.k (.int 6)) (.bin .Mult (.k (.int 2)) (.bi .int (.cons (.cmp .Eq (.call "_law_next" (.cons (.v 2) (.cons (.k (.int 8)) .nil))) (.k (.int 1))) .nil))))) (.cons (.asg 3 (.bin .FloorDiv (.k (.int 6)) (.v 4))) .nil) .nil) .nil)) (.stop ap9))))))
theorem bj7:g6 tab "law" 82 (e9 pq 82) ["_law_script","_law_parts","_law_state","_law_count","_law_choices_here","_law_lines","_law_form_here","_law_years","_law_due","_law_found","_law_best","_law_pair","_law_told"] au4 1=true:=by decide +kernel
theorem bL0(N:Nm g){a0:V}(h:wSs g d q au4 [some a0,none,none,none,none,none,none,none,none,none,none,none,none] Y (e8 Q) (xK X)):c7 g (d+1) q "law" [a0] Y Q X:=g8 N.tab N.prog bj7 (λz_ z_ z_=>vs1 λz_=>rfl) rfl h
end
theorem ck9:True:=by
 k_with_none
 k_with "mem"=>first | exact .head _ | exact .tail _ (.head _) | exact .tail _ (.tail _ (.head _)) | (simp;done)
 k_with "n"=>first | (with_reducible assumption) | (decide +kernel) | lia | (unfold j4;lia)
 k_with "heap"=>repeat (with_reducible first | assumption | apply d3 | refine l5 ?_ (by assumption) | refine ai7 ?_ (by first | assumption | (apply Ne.symm;assumption)))
 k_with "len"=>first | (with_unfolding_all decide) | (simp;done) | (simp only[az,cy,ar];lia) | (simp;lia) | (refine al bF2 ?_;simp;lia)
 k_with "side"=>first | k_extra "n" | k_extra "len" | ((first | refine .inl ?_ | refine .inr ?_);unfold j4;lia) | (refine⟨?_,?_,?_⟩<;>first | lia | k_extra "len")
 k_with "hyp"=>(intro kwh;first | (exact absurd rfl kwh) | ((try simp only[az,cy] at kwh);first | (exfalso;lia) | (revert kwh;intro _)))
 k_with "s"=>first | (refine aU6 ?_;with_reducible first | apply ay6 | apply ao4 | apply bV8 | ((first | apply bP0 | apply bW7 | apply aZ2 | apply bP8)<;>k_extra "hyp") | ((first | apply bL4 | apply bL2)<;>intro kwh<;>first | (exact absurd rfl kwh) | (exact absurd kwh (by first | assumption | decide +kernel)) | (revert kwh;intro _)) | (apply bN0<;>intro _) | refine bv3 (by first | assumption | decide +kernel) ?_ | refine be6 (by first | assumption | decide +kernel) ?_ | (apply Ite.mk<;>intro _)) | refine Req.mk (by k_extra "side") ?_ | (refine New.mk ?_;intro _ _) | (refine bN5 ?_;k_extra "call") | refine Look.mk _ (by k_extra "heap") ?_ | refine InR.l (Look.mk _ (by k_extra "heap") ?_) | refine InR.i _ rfl (LookI.mk _ (by k_extra "heap") ?_) | refine InR.s _ rfl (LookS.mk _ (by k_extra "heap") ?_) | refine ItR.l (LookR.mk _ (by k_extra "heap") ?_) | refine ItR.l (LookR.scr _ (by assumption) ?_) | refine ItR.d (LookI.mk _ (by k_extra "heap") ?_) | refine LookI.mk _ (by k_extra "heap") ?_ | refine LookS.mk _ (by k_extra "heap") ?_ | refine Hit.yes (by decide +kernel) ?_ | refine Hit.no (by decide +kernel) ?_ | refine PtR.l (Own.top ?_) | refine PtR.l (Own.mk _ (by k_extra "heap") ?_) | refine PtR.d (OwnI.top ?_) | refine PtR.d (OwnI.mk _ (by k_extra "heap") ?_) | refine OwnS.top ?_ | refine OwnS.mk _ (by k_extra "heap") ?_ | refine EqT.nil rfl rfl (by k_extra "n") ?_ | refine LookR.mk _ (by k_extra "heap") ?_ | refine LookR.scr _ (by assumption) ?_ | refine Own.top ?_ | refine Own.mk _ (by k_extra "heap") ?_ | (refine bo7 ?_ ?_ ?_;lia;k_extra "len") | (with_reducible apply cc2) | (with_reducible apply bm6;k_extra "hyp") | refine RJ.next (by assumption) ?_ | refine CJ.next (by assumption) ?_
 k_with "w"=>repeat' (k_extra "s")
 trivial
section
variable{g:G}{d:Nat}{Y:Hp}{Q:V->Hp->Prop}{X:Str->Hp->Prop}
theorem Q0(N:Nm g){v:V}{lo hi:Int}(ok:Ok Y v)(h:Q (.bool (n9 v lo hi)) Y):c7 g (d+1) true "is_from" [v,.int lo,.int hi] Y Q X:=by
 refine bq5 N ?_;cases v with
 | int n=>
  k_extra "w";all_goals exact d4 (by simpa[n9, *] using h)
 | ref a=>
  refine c6 (ok a rfl) λl hl=>?_
  k_extra "w";all_goals exact d4 h
 | _=>
  k_extra "w";all_goals exact d4 h
open Internal renaming Q0->y1
theorem cl0:True:=by
 k_with "call"=>refine y1 (by assumption) (by first | assumption | (intro _ e;cases e)) ?_
 trivial
theorem V1(N:Nm g){v:V}(ok:Ok Y v)(h:Q (.bool (n9 v (0-1000000000) 1000000000)) Y):c7 g (d+2) true "is_number" [v] Y Q X:=by
 refine bG6 N ?_;k_extra "w";all_goals exact d4 h
open Internal renaming V1->y2
theorem cl3:True:=by
 k_with "call"=>refine y2 (by assumption) (by first | assumption | (intro _ e;cases e)) ?_
 trivial
theorem aq2(N:Nm g){v:V}(ok:Cld Y v)(h:Q (.bool (I0 v)) Y):c7 g (d+1) true "is_word" [v] Y Q X:=by
 refine cf9 N ?_;cases v with
 | str x=>
  have hz:=ok.strz;k_extra "w"
  ·refine CLoop.g (λrest acc Y'=>Y=Y'/\∃ done todo,x.cps.toList=done++todo/\rest=todo.map (λc=>.str ⟨#[c]⟩)/\acc=(done.map λc=>Txt.contains E7 ⟨#[c]⟩).map .bool) ?_ ⟨rfl,[],_,rfl,rfl,rfl⟩ (λJ hJ=>?_) ?_
   ·rw[ae6];exact al hz (by decide)
   ·rintro v l acc _ hh_;obtain⟨rfl,done,todo,e,hr,rfl⟩:=hh_
    refine⟨trivial,?_⟩;cases todo with
    | nil=>cases hr
    | cons c todo=>
     cases hr;k_extra "w";exact hJ ⟨rfl,done++[c],todo,by simp[e],rfl,by simp;rfl⟩
   ·rintro acc _ hh_;obtain⟨rfl,done,todo,e,hr,rfl⟩:=hh_
    refine⟨trivial,λa hn=>?_⟩
    cases todo with
    | cons=>cases hr
    | nil=>
     k_extra "w";refine AllB.mk _ (d3 _ _ _) ?_;refine m9 (Sub.upd hn) ?_;have e2:x.cps.toList=done:=by simpa using e
     have:I0 (.str x)=(done.map λc=>Txt.contains E7 ⟨#[c]⟩).all id:=by
      show m5 x=_;unfold m5;rw[e2,dI];have h1:decide (1<=x.length)=true:=by simp;lia
      have h2:decide (x.length<=8)=true:=by simp;lia
      simp only[h1,h2,dp];rfl
     rw[<- this];exact h
  all_goals
   have e:I0 (.str x)=false:=by
    unfold I0 m5;have:¬ (1<=x.length)∨¬ (x.length<=8):=by lia
    rcases this with q | q<;>simp[q]
   rw[e] at h;exact d4 h
 | ref a=>
  refine c6 (ok.ok a rfl) λl hl=>?_
  k_extra "w";all_goals exact d4 h
 | _=>
  k_extra "w";all_goals exact d4 h
end
section
variable{g:G}{d:Nat}{Y:Hp}{Q:V->Hp->Prop}{X:Str->Hp->Prop}
set_option tactic.hygienic true in
theorem an9(N:Nm g){w:Str}{args:List V}(hz:args.length<=100)(h1:w = "part"->1<=args.length)(h:∀ b,Y b=none->Q (.ref b) (upd Y b (.lst (i4 w args)))):c7 g (d+1) true "within" [.tup (.str w::args)] Y Q X:=by
 refine bG0 N ?_;k_extra "w"
 ·rename_i hl b hb
  refine d4 ?_;have e:i4 w args=[]:=if_pos hl;rw[<- e];exact h b hb
 ·rename_i hl hw
  subst hw;cases args with
  | nil=>have:=h1 rfl;simp at this
  | cons x l=>
   k_extra "w";rename_i b hb;refine d4 ?_;have e:=I6 (x::l);rw[<- show i4 "part" (x::l)=[x] from e];exact h b hb
 ·rename_i hl hp hw b hb
  refine d4 ?_;subst hw;rw[aA9,<- I9];exact h b hb
 ·rename_i hl hp hw hw' b hb
  refine d4 ?_;subst hw';rw[aA9,<- B9];exact h b hb
 ·rename_i hl hp hw hw' b hb
  refine d4 ?_;have e:i4 w args=args:=by
   unfold i4;rw[if_neg (by rw[show V6 w=false from hl];decide),if_neg (by simpa using hp),if_neg (by simp[hw,hw'])]
  rw[aB3,<- e];exact h b hb
open Internal renaming V1->y3,Q0->y4,aq2->y5
theorem cl9:True:=by
 k_with "call"=>first | refine y3 (by assumption) (Cld.ok (by assumption)) ?_ | refine y4 (by assumption) (Cld.ok (by assumption)) ?_ | refine y5 (by assumption) (by assumption) ?_
 trivial
theorem Q7(N:Nm g){w:Str}{args:List V}{z:Lim}(h1:w≠Str.ofString "number")(h2:w≠Str.ofString "paper")(h3:w≠Str.ofString "line")(h4:w≠Str.ofString "earlier")(h5:w≠Str.ofString "part")(h6:w≠Str.ofString "table")(h7:w≠Str.ofString "choose")(h:Q (.bool true) Y):c7 g (d+3) true "is_fitting" [.tup (.str w::args),.int z.L,.int z.T,.int z.C] Y Q X:=by
 refine G7 N ?_;k_extra "w";exact d4 h
theorem bO5(N:Nm g){w:Str}{args:List V}{z:Lim}(hc:Cld Y (.tup (.str w::args)))(hs:siz w=some ((args.length:Int)+1))(h:Q (.bool (fit z w args)) Y):c7 g (d+3) true "is_fitting" [.tup (.str w::args),.int z.L,.int z.T,.int z.C] Y Q X:=by
 refine c5 hc.tups λhz hx=>?_
 have hm:=Q5 hs;simp only[szs,am,Prod.mk.injEq,aC,or_false] at hm
 rcases hm with ⟨rfl,hn⟩ | ⟨rfl,hn⟩ | ⟨rfl,hn⟩ | ⟨rfl,hn⟩ | ⟨rfl,hn⟩ | ⟨rfl,hn⟩ | ⟨rfl,hn⟩ | ⟨rfl,hn⟩ | ⟨rfl,hn⟩ | ⟨rfl,hn⟩ | ⟨rfl,hn⟩ | ⟨rfl,hn⟩
 ·obtain⟨x,rfl⟩:=A3 (l:=args) (by lia)
  have kx:=hx x (by k_extra "mem")
  refine G7 N ?_;k_extra "w";exact d4 (by rw[U1] at h;exact h)
 ·obtain⟨x,rfl⟩:=A3 (l:=args) (by lia)
  have kx:=hx x (by k_extra "mem")
  refine G7 N ?_;k_extra "w";exact d4 (by rw[S4] at h;exact h)
 ·obtain⟨x,rfl⟩:=A3 (l:=args) (by lia)
  have kx:=hx x (by k_extra "mem")
  refine G7 N ?_;k_extra "w";exact d4 (by rw[Q2] at h;exact h)
 ·obtain⟨x,rfl⟩:=A3 (l:=args) (by lia)
  have kx:=hx x (by k_extra "mem")
  refine G7 N ?_;k_extra "w";exact d4 (by rw[O7] at h;exact h)
 ·exact Q7 N (by decide +kernel) (by decide +kernel) (by decide +kernel) (by decide +kernel) (by decide +kernel) (by decide +kernel) (by decide +kernel) (by rw[ay7] at h;exact h)
 ·exact Q7 N (by decide +kernel) (by decide +kernel) (by decide +kernel) (by decide +kernel) (by decide +kernel) (by decide +kernel) (by decide +kernel) (by rw[aC7] at h;exact h)
 ·exact Q7 N (by decide +kernel) (by decide +kernel) (by decide +kernel) (by decide +kernel) (by decide +kernel) (by decide +kernel) (by decide +kernel) (by rw[an2] at h;exact h)
 ·exact Q7 N (by decide +kernel) (by decide +kernel) (by decide +kernel) (by decide +kernel) (by decide +kernel) (by decide +kernel) (by decide +kernel) (by rw[aI6] at h;exact h)
 ·obtain⟨x,y,rfl⟩:=H9 (l:=args) (by lia)
  have kx:=hx y (by k_extra "mem")
  refine G7 N ?_;k_extra "w";exact d4 (by rw[X1] at h;exact h)
 ·obtain⟨x,y,rfl⟩:=H9 (l:=args) (by lia)
  have kx:=hx x (by k_extra "mem")
  refine G7 N ?_;k_extra "w";exact d4 (by rw[P9] at h;exact h)
 ·exact Q7 N (by decide +kernel) (by decide +kernel) (by decide +kernel) (by decide +kernel) (by decide +kernel) (by decide +kernel) (by decide +kernel) (by rw[al1] at h;exact h)
 ·obtain⟨x,y,t,rfl⟩:=K8 (l:=args) (by lia)
  have kx:=hx x (by k_extra "mem")
  refine G7 N ?_;k_extra "w";exact d4 (by rw[K5] at h;exact h)
end
section
variable{g:G}{d:Nat}{X:Str->Hp->Prop}
open Internal renaming bO5->y6,an9->y7
theorem cm1:True:=by
 k_with "call"=>first | refine y6 (by assumption) (by assumption) (by assumption) ?_ | (refine y7 (by assumption) (by assumption) (by assumption) ?_;intro _ _)
 trivial
set_option tactic.hygienic true in
theorem bP4(N:Nm g){z:Lim}:∀ (n:Nat) {r:Int} {v:V} {Y:Hp} {Q:V->Hp->Prop},r=(n:Int)->Cld Y v->Q (.bool (ok z n v)) Y->c7 g (d+n+4) true "is_one" [v,.int r,.int z.L,.int z.T,.int z.C] Y Q X:=by
 intro n;induction n with
 | zero=>
  intro r v Y Q hr hc h;refine ao5 N ?_;k_extra "w";exact d4 h
 | succ n ih=>
  intro r v Y Q hr hc h;refine ao5 N ?_;cases v with
  | tup l=>
   refine c5 hc.tups λhz hx=>?_
   cases l with
   | nil=>
    k_extra "w";exact d4 h
   | cons x args=>
    have kx:=hx x (by k_extra "mem")
    have hz':args.length<=100:=by simp at hz;lia
    cases x with
    | str w=>
     k_extra "w";cases hsz:siz w with
     | none=>
      refine DGet.none hsz ?_;k_extra "w";refine d4 ?_;have e:ok z (n+1) (.tup (.str w::args))=false:=by rw[K9,hsz];rfl
      rw[e] at h;exact h
     | some k=>
      refine DGet.some k hsz ?_;k_extra "w"
      ·rename_i hk
       refine d4 ?_;have e:ok z (n+1) (.tup (.str w::args))=false:=by
        have:¬ (k=(args.length:Int)+1):=λq=>hk (by simp[q])
        rw[K9,hsz,show(some k==some ((args.length:Int)+1))=false from beq_eq_false_iff_ne.mpr λq=>this (Option.some.inj q)];rfl
       rw[e] at h;exact h
      ·rename_i hk
       have hk':siz w=some ((args.length:Int)+1):=by rw[hsz,hk];simp
       have hp:w = "part"->1<=args.length:=λe=>by
        subst e;rw[aq8] at hk';injection hk' with hk';lia
       k_extra "w"
       ·rename_i hf b hb
        refine LoopR.tmp hb (Loop.g (λrest Z' Y'=>Y=Y'/\(i4 w args).all (ok z n)=rest.all (ok z n)/\(∀ x∈rest,Cld Y x)/\∃ o,Z'=[some (.tup (.str w::args)),some (.int r),some (.int z.L),some (.int z.T),some (.int z.C),o]) ⟨rfl,rfl,λx hx'=>hx x (aG _ (as5 hx')),none,rfl⟩ (λR J hR hJ=>?_) ?_)
        ·rintro v rest _ _ hh_;obtain⟨rfl,h1,h2,o,rfl⟩:=hh_
         refine⟨trivial,?_⟩;have kv:=h2 v (by k_extra "mem")
         k_extra "w";refine ih (by k_extra "n") kv ?_
         k_extra "w"
         ·rename_i hv
          exact hJ ⟨rfl,by rw[h1,dt,hv,dp],λx hx=>h2 x (.tail _ hx),_,rfl⟩
         ·rename_i hv
          refine hR<|d4 ?_
          have e:ok z (n+1) (.tup (.str w::args))=false:=by rw[K9,h1,dt,hv,bZ,cE]
          rw[e] at h;exact h
        ·rintro _ _ hh_;obtain⟨rfl,h1,h2,o,rfl⟩:=hh_
         refine⟨trivial,?_⟩;k_extra "w";refine d4 ?_;have e:ok z (n+1) (.tup (.str w::args))=true:=by rw[K9,hk',hf,h1,beq_self_eq_true];rfl
         rw[e] at h;exact h
       ·rename_i hf
        refine d4 ?_;have e:ok z (n+1) (.tup (.str w::args))=false:=by rw[K9,hf,cE,bZ]
        rw[e] at h;exact h
    | ref a=>
     refine c6 (kx.ok a rfl) λl hl=>?_
     k_extra "w";all_goals exact d4 h
    | _=>
     k_extra "w";all_goals exact d4 h
  | ref a=>
   refine c6 (hc.ok a rfl) λl hl=>?_
   k_extra "w";all_goals exact d4 h
  | _=>
   k_extra "w";all_goals exact d4 h
end
theorem aQ7{w:Str}{n:Nat}(h:siz w=some ((n:Int)+1)):n<=100/\1<=n:=by
 have:2<=(n:Int)+1/\(n:Int)+1<=4:=(show ∀ p∈szs,2<=p.2/\p.2<=4 by decide +kernel) _ (Q5 h)
 lia
section
variable{g:G}{d:Nat}{X:Str->Hp->Prop}
theorem ba9(N:Nm g){z:Lim}{v:V}{Y:Hp}{Q:V->Hp->Prop}(hc:Cld Y v)(h:Q (.bool (ok z 8 v)) Y):c7 g (d+13) true "is_rule" [v,.int z.L,.int z.T,.int z.C] Y Q X:=by
 refine bD2 N ?_;k_extra "w";refine bP4 N 8 rfl hc ?_;exact d4 h
open Internal renaming an9->y8
theorem cl8:True:=by
 k_with "call"=>(refine y8 (by assumption) (by assumption) (by assumption) ?_;intro _ _)
 trivial
set_option tactic.hygienic true in
theorem cj6(N:Nm g){z:Lim}{u:Str}:∀ (n:Nat) {v:V} {Y:Hp} {Q:V->Hp->Prop},ok z n v=true->(f8 n v u).length<=100->(∀ b,Y b=none->Q (.ref b) (upd Y b (.lst (f8 n v u))))->c7 g (d+n+2) true "gathered" [v,.str u] Y Q X:=by
 intro n;induction n with
 | zero=>intro v Y Q hk;exact ff hk
 | succ n ih=>
  intro v Y Q hk hl h;refine p9 (K1 hk) λw args q1_=>?_;subst q1_
  refine G9 (G3 hk) λm hm hs _ hin=>?_
  obtain rfl:n=m:=by lia
  have hsz:=aQ7 hs;refine c5 hsz λhz h1=>?_
  have hp:w = "part"->1<=args.length:=λ_=>h1
  refine be8 N ?_;refine New.mk ?_;intro b hb;have k2:wSs g (d+n+2) true aK9 [some (.tup (.str w::args)),some (.str u),some (.ref b),none] (upd Y b (.lst (if w==u then[arg args 0] else[]))) (e8 Q) (xK X):=by
   k_extra "w";rename_i t ht;refine LoopR.tmp ht (Loop.g (λrest Z' Y'=>∃ c L o,Y c=none/\Y'=upd Y c (.lst L)/\L++(rest.map λr=>f8 n r u).flatten=f8 (n+1) (.tup (.str w::args)) u/\(∀ x∈rest,ok z n x=true)/\Z'=[some (.tup (.str w::args)),some (.str u),some (.ref c),o]) ⟨b,_,none,hb,rfl,by rw[E9],hin,rfl⟩ (λR J hR hJ=>?_) ?_)
   ·rintro v rest _ _ hh_;refine I5 hh_ λc L o hc q1_ hL hok q2_=>?_;clear hh_;subst q1_;subst q2_
    refine⟨trivial,?_⟩;have hlen:L.length+(f8 n v u).length<=100:=by
     have:=congrArg List.length hL;simp only[cn,List.flatten_cons,ar] at this
     lia
    k_extra "w";refine ih (hok v (by k_extra "mem")) (by k_extra "n") λe he=>?_
    have hec:e≠c:=λq=>by rw[q,d3] at he;cases he
    k_extra "w";rename_i f hf;refine c5 (j7 hf) λhfe hf'=>?_
    refine c5 (j7 hf') λhfc hf''=>?_
    refine Drop.mk (D7 ((Sub.upd hc).trans (Sub.upd he))) ?_;exact hJ ⟨f,_,_,hf'',rfl,by rw[<- hL];simp,λx hx=>hok x (.tail _ hx),rfl⟩
   ·rintro _ _ hh_;refine I5 hh_ λc L o hc q1_ hL hok q2_=>?_;clear hh_;subst q1_;subst q2_
    refine⟨trivial,?_⟩;k_extra "w";refine d4 ?_;have e:L=f8 (n+1) (.tup (.str w::args)) u:=by rw[<- hL];simp
    rw[e];exact h c hc
  cases args with
  | nil=>simp at h1
  | cons x args=>
   k_extra "w"
   ·rename_i e
    refine Stop.mk ?_;rw[if_pos (by simp[e])] at k2;exact k2
   ·rename_i e
    refine Stop.mk ?_;rw[if_neg (by simp[e])] at k2;exact k2
theorem bH8(N:Nm g){z:Lim}{u:Str}{n:Nat}{v:V}{Y:Hp}{Q:V->Hp->Prop}(hk:ok z n v=true)(hl:(f8 n v u).length<64)(hs:SK (f8 n v u))
  (h:∀ b L,Y b=none->Srt L->(∀ y,y∈L↔y∈f8 n v u)->Q (.ref b) (upd Y b (.lst L))):c7 g (d+n+3) true "named" [v,.str u] Y Q X:=by
 refine ce1 N ?_;k_extra "w";refine cj6 N n hk (by k_extra "n") λb hb=>?_
 refine SSet.mk _ (d3 _ _ _) hs hl λc L hc hS hm=>?_
 k_extra "w";refine c5 (j7 hc) λhcb hc'=>?_
 exact m9 (D7 (Sub.upd hb)) (h c L hc' hS hm)
end
section
variable{g:G}{d:Nat}{Y:Hp}{Q:V->Hp->Prop}{X:Str->Hp->Prop}
theorem aH9(N:Nm g){a:Addr}{ns:List Int}{k:Int}(hs:Scr g a ns)(hl:ns.length<=100)(h0:0<=k)(h1:k<100)(h:∀ x,Q (.int x) Y):c7 g (d+1) true "_law_cell_at" [.ref a,.int k] Y Q X:=by
 refine cf6 N ?_;k_extra "w"
 ·refine Idx.mk h0 (by assumption) (by k_extra "n") λx e=>?_
  rw[aq] at e;refine a9 (aA.mp e) λy z_ q1_=>?_;subst q1_
  exact d4 (h _)
 ·exact d4 (h _)
theorem av4(N:Nm g){c k:Int}(hk:j4 k)(h:∀ x,0<=x->x<2147483647->Q (.int x) Y):c7 g (d+1) true "_law_mixed" [.int c,.int k] Y Q X:=by
 refine bd8 N ?_;k_extra "w";exact d4 (h _ (by k_extra "n") (by k_extra "n"))
theorem K6(N:Nm g){st:Addr}{n k:Int}(h0:0<=n)(h1:n<2147483647)(hk:0<k)(hk':k<2 ^ 60)(h:∀ r n',0<=r->r<k->0<=n'->n'<2147483647->Q (.int r) (upd Y st (.lst [.int n']))) :
  c7 g (d+1) true "_law_next" [.ref st,.int k] (upd Y st (.lst [.int n])) Q X:=by
 refine bq2 N ?_;k_extra "w";exact d4 (h _ _ (Int.emod_nonneg _ (by k_extra "n")) (Int.emod_lt_of_pos _ hk) (by k_extra "n") (by k_extra "n"))
open Internal renaming K6->y9
theorem cl6:True:=by
 k_with "call"=>(refine y9 (by assumption) (by k_extra "n") (by k_extra "n") (by k_extra "n") (by k_extra "n") ?_;intro _ _ _ _ _ _)
 trivial
theorem aN5(N:Nm g){st:Addr}{n:Int}(h0:0<=n)(h1:n<2147483647)(h:∀ r n',-1000000000<=r->r<=1000000000->0<=n'->n'<2147483647->Q (.int r) (upd Y st (.lst [.int n']))) :
  c7 g (d+2) true "_law_number" [.ref st] (upd Y st (.lst [.int n])) Q X:=by
 refine ba4 N ?_;k_extra "w";all_goals exact d4 (h _ _ (by k_extra "n") (by k_extra "n") (by k_extra "n") (by k_extra "n"))
theorem aV8(N:Nm g){st b:Addr}{lo:List V}{n k:Int}(hf:Y b=none)(hne:b≠st)(h0:0<=n)(h1:n<2147483647)(hk:0<k)(hk':k<2 ^ 60)(h:∀ r n',0<=r->r<k->0<=n'->n'<2147483647->Q (.int r) (upd (upd Y st (.lst [.int n'])) b (.lst lo))) :
  c7 g (d+1) true "_law_next" [.ref st,.int k] (upd (upd Y st (.lst [.int n])) b (.lst lo)) Q X:=
 ((K6 (Q:=λv Y'=>∃ r n',v=.int r/\0<=r/\r<k/\0<=n'/\n'<2147483647/\Y'=upd Y st (.lst [.int n'])) N h0 h1 hk hk' λr n' a b c e=>⟨r,n',rfl,a,b,c,e,rfl⟩).under (ab8 hf hne)).mono (by
  rintro _ _ hh_;obtain⟨_,rfl,_,r,n',rfl,a,b,c,e,rfl⟩:=hh_;exact h r n' a b c e)
theorem E2(N:Nm g){st:Addr}{n k:Int}(hst:Y st=some (.lst [.int n]))(h0:0<=n)(h1:n<2147483647)(hk:0<k)(hk':k<2 ^ 60)(h:∀ r n',0<=r->r<k->0<=n'->n'<2147483647->Q (.int r) (upd Y st (.lst [.int n']))) :
  c7 g (d+1) true "_law_next" [.ref st,.int k] Y Q X:=by
 have:=K6 (d:=d) (Y:=Y) (Q:=Q) (X:=X) N (st:=st) h0 h1 hk hk' h;rw[P3 hst] at this;exact this
end
theorem aX5{a:Int}{L:Nat}(h0:0<=a)(h8:a<8)(e:L<=8-(a+1).toNat):a.toNat+1+L<=8:=by
 obtain⟨k,rfl⟩:=aT h0;exact Nat.add_le_of_le_sub' (cC.mp h8) e
section
variable{g:G}{d:Nat}{Y:Hp}{Q:V->Hp->Prop}{X:Str->Hp->Prop}
open Internal renaming aV8->y10,K6->y11
theorem cm2:True:=by
 k_with "call"=>first | (refine y10 (by assumption) (by assumption) (by assumption) (by k_extra "n") (by k_extra "n") (by k_extra "n") (by k_extra "n") ?_;intro _ _ _ _ _ _) | (refine y11 (by assumption) (by k_extra "n") (by k_extra "n") (by k_extra "n") (by k_extra "n") ?_;intro _ _ _ _ _ _)
 trivial
set_option tactic.hygienic true in
theorem bU3(N:Nm g){st:Addr}{n:Int}(h0:0<=n)(h1:n<2147483647)(h:∀ b (ws:List Str) n',b≠st->Y b=none->5<=ws.length->ws.length<=8->(∀ x∈ws,m5 x=true)->0<=n'->n'<2147483647->Q (.ref b) (upd (upd Y st (.lst [.int n'])) b (.lst (ws.map .str)))) :
  c7 g (d+2) true "_law_words" [.ref st] (upd Y st (.lst [.int n])) Q X:=by
 have h26:(Str.ofString "abcdefghijklmnopqrstuvwxyz").length=26:=by decide +kernel
 refine aW3 N ?_;k_extra "w";refine C1 (λi Z' Y'=>∃ (base:Str) (n:Int) (k:Option V),Let base/\base.length=i/\0<=n/\n<2147483647/\Y'=upd Y st (.lst [.int n])/\Z'=[some (.ref st),some (.str (Str.ofString "abcdefghijklmnopqrstuvwxyz")),some (.str base),k,none,none]) ⟨Str.ofString "",n,none,Let.nil,rfl,h0,h1,rfl,rfl⟩ (λR J hR hJ=>?_) ?_
 ·rintro i _ _ hi hh_;refine ar4 hh_ λbase n k hlet hlen hn hn' q1_ q2_=>?_;clear hh_;subst q1_;subst q2_
  k_extra "w";refine IdxS.mk (by k_extra "n") (by rw[h26];lia) (by k_extra "n") λc hc=>?_
  have hc1:(⟨#[c]⟩:Str).length=1:=rfl;k_extra "w";exact hJ ⟨_,_,_,hlet.app (aI2 hc),by rw[ah2,hlen,hc1],by lia,by lia,rfl,rfl⟩
 clear h0 h1 n;rintro _ _ hh_;refine ar4 hh_ λbase n k hlet hlen h0 h1 q1_ q2_=>?_;clear hh_;subst q1_;subst q2_
 have hlen:base.length=8:=hlen;k_extra "w";rename_i r n' _ _ _ _ b hb;refine c5 (j7 hb) λhne hb'=>?_
 have hw:∀ x∈[sls none (some (1+r)) base,base],m5 x=true:=by
  intro x hx;simp only[am,aC,or_false] at hx
  rcases hx with rfl | rfl
  ·have:=aJ8 (x:=base) (j:=1+r) (by k_extra "n") (by k_extra "n")
   exact(hlet.sls _ _).word (by rw[this];lia) (by rw[this];lia)
  ·exact hlet.word (by k_extra "n") (by k_extra "n")
 refine C1 (λi Z' Y'=>∃ (ws:List Str) (n:Int) (k a:Option V),ws.length=2+i/\(∀ x∈ws,m5 x=true)/\0<=n/\n<2147483647/\Y'=upd (upd Y st (.lst [.int n])) b (.lst (ws.map .str))/\Z'=[some (.ref st),some (.str (Str.ofString "abcdefghijklmnopqrstuvwxyz")),some (.str base),k,some (.ref b),a]) ⟨[sls none (some (1+r)) base,base],n',k,none,rfl,hw,by assumption,by assumption,rfl,rfl⟩ (λR J hR hJ=>?_) ?_
 ·rintro i _ _ hi hh_;refine as6 hh_ λws n k a hl hw h0 h1 q1_ q2_=>?_;clear hh_;subst q1_;subst q2_
  k_extra "w";rename_i at' n1 ha0 ha8 _ _ r2 n2 _ _ _ _;have e1:=aJ8 (x:=base) (j:=at') (by k_extra "n") (by k_extra "n")
  refine IdxS.mk (by k_extra "n") (by rw[h26];lia) (by k_extra "n") λc hc=>?_
  have hc1:(⟨#[c]⟩:Str).length=1:=rfl;have hl1:=ah2 (sls none (some at') base) ⟨#[c]⟩;k_extra "w";rename_i r3 n3 _ _ _ _;have e3:=bY2 (x:=base) (i:=at'+1) (j:=1+at'+r3) (by k_extra "n") (by k_extra "n")
  have hs1:(sls none (some at') base++⟨#[c]⟩).length=at'.toNat+1:=by rw[hl1,e1,hc1]
  have w3:=aX5 ha0 ha8 (hlen▸e3);refine Req.mk (by rw[hs1];exact al w3 (by decide)) ?_
  have hl2:=ah2 (sls none (some at') base++⟨#[c]⟩) (sls (some (at'+1)) (some (1+at'+r3)) base);rw[hs1] at hl2;have hz:(ws.map V.str).length<=10000:=by rw[aa];lia
  k_extra "w";refine hJ ⟨ws++[_],_,_,_,?_,?_,by assumption,by assumption,by rw[ak];rfl,rfl⟩
  ·rw[ar,hl];simp;lia
  ·intro x hx
   rcases au.mp hx with hx | hx
   ·exact hw x hx
   ·simp only[am,aC,or_false] at hx
    subst hx;exact(((hlet.sls _ _).app (aI2 hc)).app (hlet.sls _ _)).word (by rw[hl2];exact al (aP 1 _) (dA _ _)) (by rw[hl2];exact w3)
 ·rintro _ _ hh_;refine as6 hh_ λws n k a hl hw h0 h1 q1_ q2_=>?_;clear hh_;subst q1_;subst q2_
  have hl:ws.length=5:=hl;k_extra "w";rename_i t ht;refine c5 (j7 ht) λht1 ht2=>?_
  refine c5 (j7 ht2) λht3 ht4=>?_
  refine E2 N (n:=n) (by k_extra "heap") h0 h1 (by k_extra "n") (by k_extra "n") λr n' hr hr' hn hn'=>?_
  refine Look.mk _ (by k_extra "heap") ?_
  refine Req.mk (by decide) ?_
  refine New.mk λe he=>?_
  have hs:slc none (some r) [V.str (Str.ofString "line"),V.str (Str.ofString "paper"),V.str (Str.ofString "add")]=([(Str.ofString "line"),Str.ofString "paper",Str.ofString "add"].take r.toNat).map V.str:=by
   rw[aN1 hr,eK];rfl
  rw[hs];have hlt:([(Str.ofString "line"),Str.ofString "paper",Str.ofString "add"].take r.toNat).length<=3:=by rw[bR];exact bP _ _
  refine Look.mk (ws.map .str) (l5 (by k_extra "heap") he) ?_
  refine Look.mk _ (d3 _ _ _) ?_;refine Req.mk (by simp only[aa];lia) ?_
  refine New.mk λf hf=>?_
  rw[<- ak];k_extra "w";refine c5 (j7 hf) λhf1 hf2=>?_
  refine c5 (j7 hf2) λhf3 hf4=>?_
  refine c5 (j7 hf4) λhf5 hf6=>?_
  refine c5 (j7 hf6) λhf7 hf8=>?_
  refine c5 (j7 hf8) λhf9 hf10=>?_
  refine m9 (D7 (Sub.trans (bv5 λc o hc hY=>?_) (Sub.upd he))) (h f (ws++[(Str.ofString "line"),Str.ofString "paper",Str.ofString "add"].take r.toNat) n' hf3 hf10 (by simp;lia) (by simp only[ar];lia) ?_ hn hn')
  ·rw[d8 _ _ (j5 hY ht4),d8 _ _ (j5 hY hb'),d8 _ _ hc];exact hY
  ·intro x hx
   rcases au.mp hx with hx | hx
   ·exact hw x hx
   ·have:=cc hx
    simp only[am,aC,or_false] at this
    rcases this with rfl | rfl | rfl
    ·exact bE4
    ·exact br8
    ·exact bF1
end
section
variable{g:G}{d:Nat}{Y:Hp}{Q:V->Hp->Prop}{X:Str->Hp->Prop}
open Internal renaming K6->y12,aN5->y13
theorem ck7:True:=by
 k_with "call"=>first | (refine y12 (by assumption) (by k_extra "n") (by k_extra "n") (by k_extra "n") (by k_extra "n") ?_;intro _ _ _ _ _ _) | (refine y13 (by assumption) (by k_extra "n") (by k_extra "n") ?_;intro _ _ _ _ _ _)
 trivial
structure Src(Y:Hp)(st sl wl:Addr)(z:Lim)(seen:List Int)(ws:List Str):Prop where
 hs:Y sl=some (.lst (seen.map .int))
 sne:sl≠st
 hw:Y wl=some (.lst (ws.map .str))
 wne:wl≠st
 sz:(seen.map V.int).length<=100
 wz:(ws.map V.str).length<=100
 w1:1<=(ws.map V.str).length
 L:1<=z.L
 L':z.L<=100
 T:0<=z.T
 T':z.T<=100
 C:0<=z.C
 C':z.C<=100
theorem aC2(N:Nm g){st sl wl:Addr}{n:Int}{z:Lim}{seen:List Int}{ws:List Str}(S:Src Y st sl wl z seen ws)(h0:0<=n)(h1:n<2147483647)
  (h:∀ r n',GR z (·∈seen) (·∈ws) 1 r->0<=n'->n'<2147483647->Q r (upd Y st (.lst [.int n']))) :
  c7 g (d+3) true "_law_plain" [.ref st,.ref sl,.tup [.int z.L,.int z.T,.int z.C],.ref wl] (upd Y st (.lst [.int n])) Q X:=by
 obtain⟨hs,sne,hw,wne,sz,wz,w1,L,L',T,T',C,C'⟩:=S;refine bk8 N ?_;k_extra "w"
 ·exact d4 (h _ _ (.num (by k_extra "n") (by k_extra "n")) (by assumption) (by assumption))
 ·refine Idx.mk (by k_extra "n") (by k_extra "n") (by k_extra "n") λx hx=>?_
  refine a9 (Y0 hx) λi hi q1_=>?_;subst q1_
  k_extra "w";exact d4 (h _ _ (.line hi) (by assumption) (by assumption))
 ·refine Idx.mk (by k_extra "n") (by k_extra "n") (by k_extra "n") λx hx=>?_
  refine a9 (Y0 hx) λi hi q1_=>?_;subst q1_
  k_extra "w";exact d4 (h _ _ (.paper hi) (by assumption) (by assumption))
 ·exact d4 (h _ _ (.earlier (by k_extra "n") (by k_extra "n")) (by assumption) (by assumption))
 ·refine Idx.mk (by k_extra "n") (by k_extra "n") (by k_extra "n") λx hx=>?_
  refine a9 (Y0 hx) λi hi q1_=>?_;subst q1_
  k_extra "w";exact d4 (h _ _ (.paper hi) (by assumption) (by assumption))
theorem ac6{e:Int}{k:Nat}(he:e=((k+1+1:Nat):Int)):min (e-1) 2=((min (k+1) 2-1+1:Nat):Int):=by
 subst he;cases k with
 | zero=>decide
 | succ k=>
  rw[cJ (aP 2 k),Int.min_eq_right (by lia)];rfl
theorem R5{k:Nat}:min (k+1) 2-1<k+1:=Nat.lt_succ_of_le (Nat.sub_le_sub_right (aU _ _) 1)
theorem ag7{k:Nat}(h:k+1<8):min (k+1) 2-1<8:=bQ R5 h
theorem aa5{k:Nat}:min (k+1) 2-1+1=min (k+1) 2:=Nat.sub_add_cancel (Nat.le_min.mpr ⟨aP 1 k,by decide⟩)
theorem aj1{d k:Nat}:0+(min (k+1) 2-1)+5<=d+(k+1)+4:=by
 rw[dz];exact al (cT (br R5) 5) (cT (aP (k+1) d) 4)
set_option tactic.hygienic true in
theorem bd7(N:Nm g){st sl wl:Addr}{z:Lim}{seen:List Int}{ws:List Str}(S:Src Y st sl wl z seen ws):∀ (m:Nat) {n e:Int} {d:Nat} {Q:V->Hp->Prop},e=((m+1:Nat):Int)->m<8->0<=n->n<2147483647->
  (∀ r n',GR z (·∈seen) (·∈ws) (m+1) r->0<=n'->n'<2147483647->Q r (upd Y st (.lst [.int n'])))->
  c7 g (d+m+5) true "_law_rule" [.ref st,.int e,.ref sl,.tup [.int z.L,.int z.T,.int z.C],.ref wl] (upd Y st (.lst [.int n])) Q X:=by
 intro m;induction m using cV with
 | ind m ih=>
 intro n e d Q he hm h0 h1 h;have hT:=S.T;have hT':=S.T';have hC:=S.C;have hC':=S.C';refine bI7 N ?_;cases m with
 | zero=>
  k_extra "w";refine aC2 N S (by k_extra "n") (by k_extra "n") λr n' hr hn hn'=>?_
  k_extra "w";exact d4 (h _ _ hr hn hn')
 | succ k=>
  k_extra "w"
  ·refine aC2 N S (by k_extra "n") (by k_extra "n") λr n' hr hn hn'=>?_
   k_extra "w";exact d4 (h _ _ (hr.le (by k_extra "n")) hn hn')
  ·rename_i kind n1 hk0 hk12 hn1 hn1' hd hk
   refine ih k (by k_extra "n") (by k_extra "n") (by k_extra "n") hn1 hn1' λone n2 hone hn2 hn2'=>?_
   k_extra "w"
   ·exact d4 (h _ _ (.part hone (by k_extra "n") (by k_extra "n")) (by assumption) (by assumption))
   ·exact d4 (h _ _ (.part hone (by k_extra "n") (by k_extra "n")) (by assumption) (by assumption))
   ·exact d4 (h _ _ (.part hone (by k_extra "n") (by k_extra "n")) (by assumption) (by assumption))
   ·exact d4 (h _ _ (.table hone (by k_extra "n") (by k_extra "n")) (by assumption) (by assumption))
   ·exact d4 (h _ _ (hone.le (by k_extra "n")) (by assumption) (by assumption))
   ·rename_i hk6 hk7
    refine(ih (min (k+1) 2-1) R5 (d:=0) (ac6 he) (ag7 hm) hn2 hn2' λother n3 ho hn3 hn3'=>?_).deep aj1
    rw[aa5] at ho;k_extra "w"
    ·exact d4 (h _ _ (.twor (by k_extra "mem") ho hone) (by assumption) (by assumption))
    ·exact d4 (h _ _ (.twor (by k_extra "mem") ho hone) (by assumption) (by assumption))
    ·exact d4 (h _ _ (.twor (by k_extra "mem") ho hone) (by assumption) (by assumption))
    ·exact d4 (h _ _ (.twor (by k_extra "mem") ho hone) (by assumption) (by assumption))
    ·refine(ih (min (k+1) 2-1) R5 (d:=0) (ac6 he) (ag7 hm) (by assumption) (by assumption) λthird n4 ht hn4 hn4'=>?_).deep aj1
     rw[aa5] at ht;k_extra "w";exact d4 (h _ _ (.wherr ho hone ht) (by assumption) (by assumption))
    ·exact d4 (h _ _ (.chor (by k_extra "n") (by k_extra "n") ho hone) (by assumption) (by assumption))
    ·exact d4 (h _ _ (.twol (by k_extra "mem") hone ho) (by assumption) (by assumption))
    ·exact d4 (h _ _ (.twol (by k_extra "mem") hone ho) (by assumption) (by assumption))
    ·exact d4 (h _ _ (.twol (by k_extra "mem") hone ho) (by assumption) (by assumption))
    ·exact d4 (h _ _ (.twol (by k_extra "mem") hone ho) (by assumption) (by assumption))
    ·exact d4 (h _ _ (.twol (by k_extra "mem") hone ho) (by assumption) (by assumption))
    ·refine(ih (min (k+1) 2-1) R5 (d:=0) (ac6 he) (ag7 hm) (by assumption) (by assumption) λthird n4 ht hn4 hn4'=>?_).deep aj1
     rw[aa5] at ht;k_extra "w";exact d4 (h _ _ (.wherl hone ho ht) (by assumption) (by assumption))
    ·exact d4 (h _ _ (.chol (by k_extra "n") (by k_extra "n") hone ho) (by assumption) (by assumption))
    ·exact d4 (h _ _ (.twor (by k_extra "mem") ho hone) (by assumption) (by assumption))
end
structure NmP(Gs:List V)(gt:V->List V)(args F rest:List V):Prop where
 nd:F.Nodup
 sub:∀ y∈F,y∈Gs
 all:∀ y∈Gs,y∈F∨∃ x∈rest,(∃ l,x=.tup l)/\y∈gt x
 mem:∀ x∈rest,x∈args
section
variable{Gs args F rest L2:List V}{gt:V->List V}{v:V}
theorem NmP.skip(p:NmP Gs gt args F (v::rest))(ht:¬∃ l,v=.tup l):NmP Gs gt args F rest:=
 ⟨p.nd,p.sub,λy hy=>(p.all y hy).imp id λq=>by
  obtain⟨x,hx,hxt,q⟩:=q;rcases am.mp hx with rfl | hx
  ·exact absurd hxt ht
  ·exact⟨x,hx,hxt,q⟩,λx hx=>p.mem x (.tail _ hx)⟩
theorem NmP.put(p:NmP Gs gt args F (v::rest))(hn:L2.Nodup)(hm:∀ y,y∈L2↔y∈gt v)(hv:∀ y∈gt v,y∈Gs)(ha:∀ y∈Gs,n8 y):NmP Gs gt args (F++L2.filter λy=>!G0 F y) rest:=by
 have hF:∀ y∈F,n8 y:=λy hy=>ha y (p.sub y hy)
 refine⟨aV.mpr ⟨p.nd,hn.sublist List.filter_sublist,λx hx y hy e=>?_⟩,λy hy=>?_,λy hy=>?_,λx hx=>p.mem x (.tail _ hx)⟩
 ·subst e
  have h2:=(cu.mp hy).2;rw[(ak8 hF (hF x hx)).mpr hx] at h2;cases h2
 ·rcases au.mp hy with q | q
  ·exact p.sub y q
  ·exact hv y ((hm y).mp (cu.mp q).1)
 ·rcases p.all y hy with q | ⟨x,hx,hxt,q⟩
  ·exact .inl (au.mpr (.inl q))
  ·rcases am.mp hx with rfl | hx
   ·refine .inl (au.mpr ?_)
    cases hq:G0 F y with
    | true=>exact .inl ((ak8 hF (ha y hy)).mp hq)
    | false=>exact .inr (cu.mpr ⟨(hm y).mpr q,by rw[hq];rfl⟩)
   ·exact .inr ⟨x,hx,hxt,q⟩
theorem NmP.fin(p:NmP Gs gt args F [])(y:V):y∈F↔y∈Gs:=⟨p.sub y,λhy=>by
 rcases p.all y hy with q | ⟨x,hx,_⟩
 ·exact q
 ·cases hx⟩
end
section
variable{g:G}{d:Nat}{X:Str->Hp->Prop}
set_option tactic.hygienic true in
theorem bM0(N:Nm g){z:Lim}{u:Str}(hu:NW u):∀ (n:Nat) {v:V} {Y:Hp} {Q:V->Hp->Prop},ok z n v=true->(f8 n v u).length<64->
  (∀ b L,Y b=none->Srt L->(∀ y,y∈L↔y∈f8 n v u)->Q (.ref b) (upd Y b (.lst L)))->c7 g (d+n+2) true "_law_named" [v,.str u] Y Q X:=by
 intro n;induction n with
 | zero=>intro v Y Q hk;exact(ac hk).elim
 | succ n ih=>
  intro v Y Q hk hl h;obtain⟨hat,hsk⟩:=aG4 hu hk;obtain⟨w,args,rfl⟩:=K1 hk;obtain⟨m,hm,hs,hf,hin⟩:=G3 hk;obtain rfl:n=m:=Nat.succ.inj hm;have h5:2<=(args.length:Int)+1/\(args.length:Int)+1<=4:=(by decide +kernel:∀ p∈szs,2<=p.2/\p.2<=4) _ (Q5 hs)
  have hz:args.length<=100:=by lia
  have hp0:∃ x l,args=x::l:=by
   cases args with
   | nil=>exact absurd h5.1 (by decide)
   | cons x l=>exact⟨x,l,rfl⟩
  clear h5 hk hm;have hlv:∀ x∈i4 w args,(f8 n x u).length<64:=λx hx=>by
   have:=aB0 (l:=(i4 w args).map λx=>(f8 n x u).length) (x:=(f8 n x u).length) (ai.mpr ⟨_,hx,rfl⟩)
   rw[E9,ar,eP,aZ] at hl;exact bx (al this (aP _ _)) hl
  have hg:∀ y,y∈f8 (n+1) (.tup (.str w::args)) u↔(y∈(if w==u then[arg args 0] else[]))∨∃ x∈i4 w args,y∈f8 n x u:=λy=>by
   rw[E9,au,ch];refine or_congr Iff.rfl ⟨λq=>?_,λq=>?_⟩
   ·obtain⟨_,hr,q⟩:=q
    obtain⟨x,hx,rfl⟩:=ai.mp hr;exact⟨x,hx,q⟩
   ·obtain⟨x,hx,q⟩:=q
    exact⟨_,ai.mpr ⟨x,hx,rfl⟩,q⟩
  generalize f8 (n+1) (.tup (.str w::args)) u=Gs at hat hsk hl hg h;refine bL1 N ?_;refine New.mk ?_;intro b hb;have k:wSs g (d+(n+1)+1) true aI8 [some (.tup (.str w::args)),some (.str u),some (.ref b),none] (upd Y b (.lst (if w==u then[arg args 0] else[]))) (e8 Q) (xK X):=?_
  ·obtain⟨x,l,rfl⟩:=hp0
   k_extra "w"
   ·rename_i e
    refine Stop.mk ?_;rw[if_pos (beq_iff_eq.mpr e)] at k;exact k
   ·rename_i e
    refine Stop.mk ?_;rw[if_neg (λq=>e (beq_iff_eq.mp q))] at k;exact k
  clear hp0;k_extra "w";rw[aB3];refine Loop.g (λrest Z' Y'=>∃ c F o,Y c=none/\NmP Gs (λx=>f8 n x u) args F rest/\Y'=upd Y c (.lst F)/\Z'=[some (.tup (.str w::args)),some (.str u),some (.ref c),o]) ⟨b,_,none,hb,⟨?_,λy hy=>(hg y).mpr (.inl hy),λy hy=>?_,λx hx=>hx⟩,rfl,rfl⟩ (λR J hR hJ=>?_) ?_
  ·split
   ·exact .cons (λ_ h=>by cases h) .nil
   ·exact .nil
  ·refine((hg y).mp hy).imp id λq=>?_
   obtain⟨x,hx,q⟩:=q;obtain⟨w',a',e⟩:=K1 (hin x hx);exact⟨x,as5 hx,⟨_,e⟩,q⟩
  ·rintro v rest _ _ ⟨c,F,o,hc,hp,rfl,rfl⟩
   refine⟨trivial,?_⟩;have hva:=hp.mem v (.head _);by_cases ht:∃ l,v=.tup l
   ·have hv:=bZ4 hs hf hva ht.choose_spec
    have hvk:=hin v hv;have hvl:=hlv v hv;have hvg:∀ y∈f8 n v u,y∈Gs:=λy hy=>(hg y).mpr (.inr ⟨v,hv,hy⟩)
    obtain⟨l,rfl⟩:=ht;clear hlv hin hg hv hva hs hf;k_extra "w";refine ih hvk hvl λe L2 he hS hm2=>?_
    have hL2:∀ y∈L2,n8 y:=λy hy=>hat y (hvg y ((hm2 y).mp hy))
    have hFa:∀ y∈F,n8 y:=λy hy=>hat y (hp.sub y hy)
    have hL2l:L2.length<=63:=br (bx (F6 hS.nodup λy hy=>(hm2 y).mp hy) hvl)
    have hFl:F.length<=63:=br (bx (F6 hp.nd hp.sub) hl);have hp2:=hp.put hS.nodup hm2 hvg hat;have hce:c≠e:=j5 (d3 _ _ _) he;refine Look.mk L2 (d3 _ _ _) ?_;refine CLoop.g (λrest acc Y'=>upd (upd Y c (.lst F)) e (.lst L2)=Y'/\∃ done,L2=done++rest/\acc=done.filter (λy=>!G0 F y)) (by k_extra "n") ⟨rfl,[],rfl,rfl⟩ (λJ2 hJ2=>?_) ?_
    ·rintro v rest acc _ ⟨rfl,done,hd,rfl⟩
     have hv2:n8 v:=hL2 v (hd▸au.mpr (.inr (.head _)));refine⟨d3 _ _ _,?_⟩;k_extra "w";refine bh8 ?_;refine InL.mk (n8.flatL hFa) hv2.flat (by rw[n8.depL hFa,hv2.dep];lia) ?_
     have hd2:L2=(done++[v])++rest:=by rw[hd,aF];rfl
     k_extra "w"
     ·rename_i hq
      exact hJ2 ⟨rfl,done++[v],hd2,by rw[dk,List.filter_cons,if_pos (by rw[show G0 F v=false from Bool.eq_false_iff.mpr (Ne.symm hq)];rfl)];rfl⟩
     ·rename_i hq
      exact hJ2 ⟨rfl,done++[v],hd2,by rw[dk,List.filter_cons,if_neg (by rw[show G0 F v=true from hq.symm];decide)];exact(aL _).symm⟩
    ·rintro acc _ ⟨rfl,done,hd,rfl⟩
     rw[aL] at hd;subst hd;refine⟨d3 _ _ _,λa ha=>?_⟩
     have hfl:(L2.filter λy=>!G0 F y).length<=L2.length:=List.length_filter_le _ _
     k_extra "w";rename_i f hf;exact Drop.mk (D7 (((Sub.upd hc).trans (Sub.upd he)).trans (Sub.upd ha))) (hJ ⟨f,_,_,(j7 (j7 (j7 hf).2).2).2,hp2,rfl,rfl⟩)
   ·have hp2:=hp.skip ht
    rcases aB1 hs hf hva with q | ⟨i,rfl⟩ | ⟨i,rfl⟩
    ·obtain⟨w',a',e⟩:=K1 (hin v q)
     exact absurd ⟨_,e⟩ ht
    all_goals
     clear hg hlv hin hs hf hva;k_extra "w";exact Drop.mk (Sub.refl _) (hJ ⟨c,F,_,hc,hp2,rfl,rfl⟩)
  ·rintro _ _ ⟨c,F,o,hc,hp,rfl,rfl⟩
   refine⟨trivial,?_⟩;have hFl:F.length<=63:=br (bx (F6 hp.nd hp.sub) hl);k_extra "w";refine Srted.mk _ (d3 _ _ _) (hsk.sub hp.sub) (Nat.lt_succ_of_le hFl) λe L he hq hpw=>?_
   k_extra "w";exact m9 (D7 (Sub.upd hc)) (h e L (j7 he).2 (aK8 hpw (hq.nodup_iff.mpr hp.nd)) λy=>hq.mem_iff.trans (hp.fin y))
end
noncomputable def t8(v:V):Bool:=match v with
 | .tup l=>decide (l.length=3)&&(n9 (arg l 0) (0-1000000000) 1000000000&&(n9 (arg l 1) (0-1000000000) 1000000000&&n9 (arg l 2) 0 100))
 | _=>false
noncomputable def as9(v:V):Int:=match v with
 | .tup (.int a::_)=>a
 | _=>0
noncomputable def D5(l:List V)(k:Nat):Bool:=decide (as9 (l.getD k .none)<as9 (l.getD (k+1) .none))
noncomputable def u4(v:V):Bool:=match v with
 | .tup l=>(decide (1<=l.length)&&decide (l.length<=20))&&(l.all t8&&(List.range (l.length-1)).all (D5 l))
 | _=>false
theorem bB3{l:List V}(h:l.length≠3):t8 (.tup l)=false:=by
 show(decide (l.length=3)&&_)=false;rw[decide_eq_false h];rfl
theorem aj6{a b c:V}:t8 (.tup [a,b,c])=(n9 a (0-1000000000) 1000000000&&(n9 b (0-1000000000) 1000000000&&n9 c 0 100)):=rfl
section
variable{g:G}{d:Nat}{Y:Hp}{Q:V->Hp->Prop}{X:Str->Hp->Prop}
open Internal renaming V1->y14,Q0->y15
theorem ck4:True:=by
 k_with "call"=>first | refine y14 (by assumption) (Cld.ok (by assumption)) ?_ | refine y15 (by assumption) (Cld.ok (by assumption)) ?_
 trivial
set_option tactic.hygienic true in
theorem bC6(N:Nm g){v:V}(ok:Cld Y v)(h:Q (.bool (t8 v)) Y):c7 g (d+3) true "is_row" [v] Y Q X:=by
 refine bK2 N ?_;cases v with
 | tup l=>
  refine c5 ok.tups λhz hx=>?_
  have hz:l.length<=10000:=al hz (by decide)
  k_extra "w"
  ·rename_i hl
   refine d4 ?_;rw[bB3 (λq=>hl (by rw[q];rfl))] at h;exact h
  ·rename_i hl
   refine N2 (K8 (l:=l) (Int.ofNat_inj.mp hl)) λa b c q1_=>?_;subst q1_
   have ka:=hx a (by k_extra "mem")
   have kb:=hx b (by k_extra "mem")
   have kc:=hx c (by k_extra "mem")
   k_extra "w"
   ·rename_i ha hb
    rw[aj6,ha,hb] at h;exact d4 h
   ·rename_i ha hb
    exact r_b hb (by rw[aj6,ha,hb] at h;exact h)
   ·rename_i ha
    exact r_b ha (by rw[aj6,ha] at h;exact h)
 | ref a=>
  refine c6 (ok.ok a rfl) λl hl=>?_
  k_extra "w";all_goals exact d4 h
 | _=>
  k_extra "w";all_goals exact d4 h
end
section
variable{g:G}{d:Nat}{Y:Hp}{Q:V->Hp->Prop}{X:Str->Hp->Prop}
theorem O8{v:V}(h:t8 v=true):∃ a b c,v=.tup [.int a,.int b,.int c]/\0<=c/\c<=100:=by
 cases v with
 | tup l=>
  refine c5 ((aQ _ _).mp (show(decide (l.length=3)&&_)=true from h)) λh0 h1=>?_
  refine N2 (K8 (of_decide_eq_true h0)) λx y t q1_=>?_;subst q1_
  refine c5 ((aQ _ _).mp h1) λh1 h23=>?_
  refine c5 ((aQ _ _).mp h23) λh2 h3=>?_
  refine a9 (t9 h1) λa ea z_=>?_
  refine a9 (t9 h2) λb eb z_=>?_
  refine i8 (t9 h3) λc ec h4 h5=>?_
  exact⟨a,b,c,by rw[show x=_ from ea,show y=_ from eb,show t=_ from ec],h4,h5⟩
 | _=>exact ff h
theorem aC8{v:V}(h:t8 v=true):∃ a b c,v=.tup [.int a,b,c]:=by
 refine x8 (O8 h) λa b c e z_=>?_
 exact⟨a,_,_,e⟩
theorem V7{l:List V}{k:Nat}{x:V}(h:l[k]?=some x):l.getD k .none=x:=by rw[aw,h];rfl
set_option tactic.hygienic true in
theorem bE9(N:Nm g){v:V}(ok:Cld Y v)(h:Q (.bool (u4 v)) Y):c7 g (d+4) true "is_table" [v] Y Q X:=by
 refine bK8 N ?_;cases v with
 | tup l=>
  refine c5 ok.tups λhz0 hx=>?_
  have hz:l.length<=10000:=al hz0 (by decide)
  k_extra "w"
  ·rename_i h1 h2
   refine Loop.g (λrest Z' Y'=>Y=Y'/\l.all t8=rest.all t8/\(∀ x∈rest,Cld Y x)/\∃ o,Z'=[some (.tup l),o]) ⟨rfl,rfl,hx,none,rfl⟩ (λR J hR hJ=>?_) ?_
   ·rintro v rest _ _ hh_;obtain⟨rfl,h3,h4,o,rfl⟩:=hh_
    refine⟨trivial,?_⟩;have kv:=h4 v (by k_extra "mem")
    k_extra "w";refine bC6 N kv ?_;k_extra "w"
    ·rename_i hv
     exact hJ ⟨rfl,by rw[h3,dt,hv,dp],λx hx=>h4 x (.tail _ hx),_,rfl⟩
    ·rename_i hv
     have e:u4 (.tup l)=false:=by
      show(_&&(l.all t8&&_))=false;rw[h3,dt,hv,bZ,bZ,cE]
     rw[e] at h;exact hR<|d4 h
   ·rintro _ _ hh_;obtain⟨rfl,h3,h4,o,rfl⟩:=hh_
    refine⟨trivial,?_⟩;have h3:l.all t8=true:=h3;have hr:∀ x∈l,t8 x=true:=aB.mp h3;have h1':1<=l.length:=by lia
    k_extra "w";refine O1 (λi acc Y'=>Y=Y'/\acc=(List.range i).map λk=>V.bool (D5 l k)) (by lia) ⟨rfl,rfl⟩ (λJ hJ=>?_) ?_
    ·rintro i acc _ hi hh_;refine c5 hh_ λq1_ q2_=>?_;clear hh_;subst q1_;subst q2_
     have e0:(0:Int)+(i:Int)=i:=bI _;rw[e0];have hi1:i<l.length:=by lia
     have hi2:i+1<l.length:=by lia
     refine N2 (aC8 (hr _ (bv hi1))) λa b c ea=>?_
     refine N2 (aC8 (hr _ (bv hi2))) λa' b' c' ea'=>?_
     have g1:l[i]?=some (.tup [.int a,b,c]):=by rw[ae hi1,ea]
     have g2:l[i+1]?=some (.tup [.int a',b',c']):=by rw[ae hi2,ea']
     k_extra "w";refine Idx.mk (by lia) (by lia) (by lia) λx ex=>?_
     obtain rfl:x=.tup [.int a,b,c]:=Option.some.inj (ex.symm.trans g1);k_extra "w";refine Idx.mk (by lia) (by lia) (by lia) λx ex=>?_
     obtain rfl:x=.tup [.int a',b',c']:=Option.some.inj (ex.symm.trans g2);k_extra "w";refine hJ ⟨rfl,?_⟩;rw[bn,ak];show _=_++[V.bool (D5 l i)];unfold D5;rw[V7 g1,V7 g2];rfl
    ·rintro acc _ ⟨rfl,rfl⟩ c hc
     k_extra "w";have e:u4 (.tup l)=((List.range (l.length-1)).map (D5 l)).all id:=by
      show((decide (1<=l.length)&&decide (l.length<=20))&&(l.all t8&&(List.range (l.length-1)).all (D5 l)))=_;rw[h3,decide_eq_true h1',decide_eq_true (show l.length<=20 by lia),dI];rfl
     have e2:((l.length:Int)-1-0).toNat=l.length-1:=cg1 _;refine AllB.mk ((List.range (l.length-1)).map (D5 l)) (by rw[e2,aZ];exact d3 _ _ _) ?_
     rw[e] at h;exact m9 (Sub.upd hc) h
  all_goals
   have e:u4 (.tup l)=false:=by
    show((decide (1<=l.length)&&decide (l.length<=20))&&_)=false;have:¬ (1<=l.length)∨¬ (l.length<=20):=by lia
    rcases this with q | q<;>simp[q]
   rw[e] at h;exact d4 h
 | ref a=>
  refine c6 (ok.ok a rfl) λl hl=>?_
  k_extra "w";all_goals exact d4 h
 | _=>
  k_extra "w";all_goals exact d4 h
end
theorem aC3(k:Int)(p:Int×V)(L:List (Int×V)):j9 (p::L) k=if p.1=k then some p.2 else j9 L k:=by
 unfold j9;rw[cx];by_cases e:p.1=k
 ·rw[if_pos e,show decide (p.1=k)=true from decide_eq_true e];rfl
 ·rw[if_neg e,show decide (p.1=k)=false from decide_eq_false e]
theorem al4{k:Int}{L:List (Int×V)}(h:k∈L.map (·.1)):∃ v,j9 L k=some v/\(k,v)∈L:=by
 induction L with
 | nil=>cases h
 | cons p L ih=>
  rw[aC3];by_cases e:p.1=k
  ·rw[if_pos e];exact⟨p.2,rfl,by rw[<- e];exact .head _⟩
  ·rw[if_neg e]
   rcases am.mp h with q | q
   ·exact absurd q.symm e
   ·refine a9 (ih q) λv h1 h2=>?_;exact⟨v,h1,.tail _ h2⟩
theorem bU7{k:Int}{L:List (Int×V)}(h:k∉L.map (·.1)):j9 L k=none:=by
 induction L with
 | nil=>rfl
 | cons p L ih=>
  rw[aC3,if_neg (λe=>h (by rw[<- e];exact .head _))]
  exact ih λq=>h (.tail _ q)
theorem av1{k:Int}{L:List (Int×V)}{v:V}(h:k∉L.map (·.1)):B7 L k v=L++[(k,v)]:=by
 unfold B7;rw[if_neg];intro q;refine a9 (dH.mp q) λp hp e=>?_
 exact h (by rw[<- of_decide_eq_true e];exact ai.mpr ⟨p,hp,rfl⟩)
structure NmAt(Y:Hp)(na:Addr)(nm:List (List Int)):Prop where
 ex:∃ rs:List Addr,Y na=some (.lst (rs.map .ref))/\rs.length=nm.length/\∀ (i:Nat) r,rs[i]?=some r->Y r=some (.lst ((nm.getD i []).map .int))
 n100:nm.length<=100
 l100:∀ l∈nm,l.length<=100
theorem NmAt.sub{Y Y':Hp}{na:Addr}{nm:List (List Int)}(h:NmAt Y na nm)(k:Sub Y Y'):NmAt Y' na nm:=by
 obtain⟨⟨rs,h1,h2,h3⟩,h4,h5⟩:=h;exact⟨⟨rs,k _ _ h1,h2,λi r e=>k _ _ (h3 i r e)⟩,h4,h5⟩
theorem NmAt.len{Y:Hp}{na:Addr}{nm:List (List Int)}{i:Nat}(h:NmAt Y na nm):(nm.getD i []).length<=100:=by
 rw[aw];cases e:nm[i]? with
 | none=>exact ay _
 | some l=>exact h.l100 l (aD e)
structure Acy(nm:List (List Int))(rk:Int->Nat):Prop where
 rng:∀ (i:Nat),∀ j∈nm.getD i [],0<=j/\j<nm.length
 dn:∀ (i:Nat),∀ j∈nm.getD i [],rk j<rk i
structure SJ(goal:Int)(rk:Int->Nat)(n:Nat)(S:List Int)(L:List (Int×V)):Prop where
 keys:L.map (·.1)=S
 nd:S.Nodup
 rng:∀ x∈S,0<=x/\x<n
 up:∀ x∈S,x=goal∨rk goal<rk x
 vals:∀ p∈L,∃ i,p.2=.int i
theorem J0{S:List Int}{n:Nat}(hn:S.Nodup)(h:∀ x∈S,0<=x/\x<n):S.length<=n:=by
 have:=F6 (l:=S.map .int) (k:=(List.range n).map fun(i:Nat)=>V.int i) (List.Pairwise.map _ (λa b hab e=>hab (V.int.inj e)) hn) λy hy=>by
  refine a9 (ai.mp hy) λx hx q1_=>?_;subst q1_
  refine c5 (h x hx) λh0 h1=>?_
  exact ai.mpr ⟨x.toNat,bc.mpr ((eU h0).mpr h1),by rw[bu h0]⟩
 rw[aa,aa,aN] at this;exact this
theorem SJ.push{goal:Int}{rk:Int->Nat}{n:Nat}{S:List Int}{L:List (Int×V)}(h:SJ goal rk n S L){o i:Int}(ho:o∉S)(h0:0<=o)(h1:o<n)(hr:rk goal<rk o):SJ goal rk n (S++[o]) (B7 L o (.int i)):=by
 rw[av1 (by rw[h.keys];exact ho)]
 refine⟨by rw[ak,h.keys];rfl,?_,?_,?_,?_⟩
 ·refine aV.mpr ⟨h.nd,(by k_extra "mem"),λx hx y hy e=>?_⟩
  rw[ah.mp hy] at e;exact ho (e▸hx)
 ·intro x hx
  rcases au.mp hx with q | q
  ·exact h.rng x q
  ·rw[ah.mp q];exact⟨h0,h1⟩
 ·intro x hx
  rcases au.mp hx with q | q
  ·exact h.up x q
  ·rw[ah.mp q];exact .inr hr
 ·intro p hp
  rcases au.mp hp with q | q
  ·exact h.vals p q
  ·rw[ah.mp q];exact⟨i,rfl⟩
theorem Ya4{l:List Int}:∀ y∈l.map V.int,n8 y:=λy hy=>by refine a9 (ai.mp hy) λi z_ q1_=>?_;subst q1_;exact .inl ⟨i,rfl⟩
theorem bU5{l:List Int}{x:Int}:G0 (l.map .int) (.int x)=true↔x∈l:=by
 rw[ak8 Ya4 (.inl ⟨x,rfl⟩)];constructor
 ·intro h;refine a9 (ai.mp h) λi hi e=>?_;exact V.int.inj e▸hi
 ·intro h;exact ai.mpr ⟨x,h,rfl⟩
theorem aA4{l:List Int}{x:Int}:((l4 (l.map .int)).any λy=>PyData.eqv y (dat (.int x)))=decide (x∈l):=by
 rw[cS,decide_eq_true_iff];exact bU5
theorem av9{d:Nat}{l:List Int}{x:Int}:min (depL (l.map .int)) (dep (.int x))+1<=8*(d+1):=by
 rw[n8.depL Ya4,Nat.zero_min];exact al (by decide) (bS 8 (aP 1 d))
theorem aG3{d:Nat}{l:List Int}{x:Int}{Y:Hp}{Q:VP}(h:Q (.bool (decide (x∈l))) Y):InL false (d+1) (l.map .int) (.int x) Y Q:=
 InL.mk (n8.flatL Ya4) rfl av9 (by rw[aA4,cb];exact h)
theorem ag4{d:Nat}{l:List Int}{x:Int}{Y:Hp}{Q:VP}(h:Q (.bool (!decide (x∈l))) Y):InL true (d+1) (l.map .int) (.int x) Y Q:=
 InL.mk (n8.flatL Ya4) rfl av9 (by rw[aA4,bU];exact h)
theorem bR8{Y:Hp}{a b:Addr}{x x' y y':AObj}:upd (upd (upd (upd Y a x) b y) a x') b y'=upd (upd Y a x') b y':=by
 funext c
 unfold upd;by_cases h1:c=b
 ·rw[if_pos h1,if_pos h1]
 ·rw[if_neg h1,if_neg h1]
  by_cases h2:c=a
  ·rw[if_pos h2,if_pos h2,if_neg h1]
  ·rw[if_neg h2,if_neg h1,if_neg h2,if_neg h2]
section
variable{g:G}{d:Nat}{Y:Hp}{Q:V->Hp->Prop}{X:Str->Hp->Prop}
set_option tactic.hygienic true in
theorem aP6(N:Nm g){na:Addr}{nm:List (List Int)}{goal:Int}{rk:Int->Nat}(hN:NmAt Y na nm)(hA:Acy nm rk)(h0:0<=goal)(h1:goal<nm.length)
  (h:∀ D S L,Y D=none->SJ goal rk nm.length S L->Q (.ref D) (upd Y D (.di L))):c7 g (d+2) true "steps_to" [.ref na,.int goal] Y Q X:=by
 refine aR6 N ?_;refine i8 hN.ex λrs hna hrl hrs=>?_
 have hz:(rs.map V.ref).length<=100:=by rw[aa,hrl];exact hN.n100
 have hz2:(rs.map V.ref).length=nm.length:=by rw[aa,hrl]
 k_extra "w";rename_i D hD sA hsA;refine c5 (j7 hsA) λhne hsA'=>?_
 refine Whl.g (λm Z' Y'=>∃ (S:List Int) (L:List (Int×V)) (a:Nat) (o5 o6:Option V),SJ goal rk nm.length S L/\m=nm.length-a/\a<=S.length/\Y'=upd (upd Y D (.di L)) sA (.lst (S.map .int))/\
  Z'=[some (.ref na),some (.int goal),some (.ref D),some (.ref sA),some (.int a),o5,o6]) (nm.length-0) ⟨[goal],_,0,none,none,?_,rfl,ay _,rfl,rfl⟩ λR J hR hJ=>?_
 ·exact⟨rfl,(by k_extra "mem"),λx hx=>by rw[ah.mp hx];exact⟨h0,h1⟩,λx hx=>.inl (ah.mp hx),λp hp=>by rw[ah.mp hp];exact⟨0,rfl⟩⟩
 ·rintro m _ _ hh_;refine bn7 hh_ λS L a o5 o6 hS q1_ ha q2_ q3_=>?_;clear hh_;subst q1_;subst q2_;subst q3_
  have hSl:=J0 hS.nd hS.rng;have hS1:(S.map V.int).length=S.length:=aa _;have hS2:(S.map V.int).length<=10000:=by rw[hS1];have:=hN.n100;lia
  k_extra "w"
  ·rename_i hlt
   refine Idx.mk (by lia) (by lia) (by lia) λx hx=>?_
   refine a9 (Y0 hx) λline hline q1_=>?_;subst q1_
   have hsA2:upd Y D (.di L) sA=none:=by rw[d8 _ _ hne];exact hsA'
   k_extra "w";refine C1 (λi Z' Y'=>∃ (S':List Int) (L':List (Int×V)) (o6:Option V),SJ goal rk nm.length S' L'/\S.length<=S'.length/\line∈S'/\Y'=upd (upd Y D (.di L')) sA (.lst (S'.map .int))/\
    Z'=[some (.ref na),some (.int goal),some (.ref D),some (.ref sA),some (.int a),some (.int line),o6]) ⟨S,L,o6,hS,aI _,hline,rfl,rfl⟩ (λR J hR hJ=>?_) ?_
   ·rintro i _ _ hi hh_;refine I5 hh_ λS' L' o6 hS' hle hl' q1_ q2_=>?_;clear hh_;subst q1_;subst q2_
    have hi':i<nm.length:=by lia
    have hSl':=J0 hS'.nd hS'.rng;have hS1':(S'.map V.int).length=S'.length:=aa _;have hS2':(S'.map V.int).length<=10000:=by rw[hS1'];have:=hN.n100;lia
    have hLl:L'.length<=10000:=by have:=congrArg List.length hS'.keys;rw[aa] at this;have:=hN.n100;lia
    have hsA2:upd Y D (.di L') sA=none:=by rw[d8 _ _ hne];exact hsA'
    obtain⟨r,hr⟩:∃ r,rs[i]?=some r:=⟨_,ae (by lia)⟩
    have hYr:=hrs i r hr;have e0:(0:Int)+(i:Int)=i:=bI _;rw[e0];have hup:line∈nm.getD i []->rk goal<rk i:=λq=>by
     have:=hA.dn i line q;rcases hS'.up line hl' with e | e
     ·rw[e] at this;exact this
     ·exact bQ e this
    k_extra "w";refine Idx.mk (by lia) (by lia) (by lia) λx hx=>?_
    obtain rfl:x=.ref r:=by
     have e:(rs.map V.ref)[i]?=some (.ref r):=by rw[aq,hr];rfl
     exact Option.some.inj (hx.symm.trans e)
    k_extra "w";refine aG3 ?_;k_extra "w"
    ·rename_i hin hnot
     have hno:(i:Int)∉S':=λq=>by
      obtain⟨v,hv,-⟩:=al4 (L:=L') (k:=i) (by rw[hS'.keys];exact q)
      rw[hv] at hnot;exact hnot rfl
     obtain⟨v,hv,hv'⟩:=al4 (L:=L') (k:=line) (by rw[hS'.keys];exact hl')
     refine c6 (hS'.vals _ hv') λk ek=>?_
     obtain rfl:v=.int k:=ek;refine DAt.mk _ hv ?_;k_extra "w";refine hJ ⟨S'++[(i:Int)],_,_,hS'.push (i:=k+1) hno (aJ i) (by lia) (hup hin),by rw[ar];lia,au.mpr (.inl hl'),?_,rfl⟩
     rw[bR8,ak];rfl
    ·exact hJ ⟨S',L',_,hS',hle,hl',rfl,rfl⟩
    ·exact hJ ⟨S',L',_,hS',hle,hl',rfl,rfl⟩
   ·rintro _ _ hh_;refine I5 hh_ λS' L' o6 hS' hle hl' q1_ q2_=>?_;clear hh_;subst q1_;subst q2_
    k_extra "w";exact hJ ⟨nm.length-(a+1),ao3 (by lia),S',L',a+1,_,_,hS',rfl,by lia,rfl,rfl⟩
  ·have hsA2:upd Y D (.di L) sA=none:=by rw[d8 _ _ hne];exact hsA'
   exact hR<|m9 (Sub.upd hsA2) (h D S L hD hS)
theorem bI9{d:Nat}{Y:Hp}{Q:VP}(h:Q (.bool true) Y):EqL false (d+1) [] [] Y Q:=EqL.mk rfl rfl (al (by decide) (bS 8 (aP 1 d))) h
theorem as1{d:Nat}{Y:Hp}{Q:VP}(h:Q (.bool false) Y):EqL true (d+1) [] [] Y Q:=EqL.mk rfl rfl (al (by decide) (bS 8 (aP 1 d))) h
set_option tactic.hygienic true in
theorem bs5(N:Nm g){na:Addr}{nm:List (List Int)}{start:Int}{rk:Int->Nat}(hN:NmAt Y na nm)(hA:Acy nm rk)(h0:0<=start)(h1:start<nm.length)
  (h:∀ b,Y b=none->Q (.ref b) (upd Y b (.lst []))):c7 g (d+3) true "ring_from" [.ref na,.int start] Y Q X:=by
 refine bC3 N ?_;refine i8 hN.ex λrs hna hrl hrs=>?_
 have hz:(rs.map V.ref).length<=100:=by rw[aa,hrl];exact hN.n100
 have hz2:(rs.map V.ref).length=nm.length:=by rw[aa,hrl]
 have hst:start.toNat<nm.length:=by lia
 obtain⟨r,hr⟩:∃ r,rs[start.toNat]?=some r:=⟨_,ae (by lia)⟩
 have hYr:=hrs _ r hr;k_extra "w";refine aP6 N hN hA h0 h1 λD S L hD hS=>?_
 k_extra "w";refine Idx.mk h0 (by lia) (by lia) λx hx=>?_
 obtain rfl:x=.ref r:=by
  have e:(rs.map V.ref)[start.toNat]?=some (.ref r):=by rw[aq,hr];rfl
  exact Option.some.inj (hx.symm.trans e)
 have hYr':upd Y D (.di L) r=some (.lst ((nm.getD start.toNat []).map .int)):=l5 hYr hD;have hlen:=hN.len (i:=start.toNat);have hnone:∀ j∈nm.getD start.toNat [],j9 L j=none:=λj hj=>by
  refine bU7 ?_;rw[hS.keys];intro q;have h3:=hA.dn _ j hj;rw[show((start.toNat:Nat):Int)=start by lia] at h3
  rcases hS.up j q with e | e
  ·rw[e] at h3;exact bE _ h3
  ·exact bE _ (bQ h3 e)
 k_extra "w";refine CLoop.g (λrest acc Y'=>upd Y D (.di L)=Y'/\acc=[]/\∃ l':List Int,rest=l'.map .int/\∀ j∈l',j∈nm.getD start.toNat []) (by rw[aa];lia) ⟨rfl,rfl,_,rfl,λj hj=>hj⟩ (λJ hJ=>?_) ?_
 ·rintro v rest acc _ hh_;obtain⟨rfl,rfl,l',hl,hm⟩:=hh_
  refine⟨hYr',?_⟩;cases l' with
  | nil=>cases hl
  | cons j l'=>
   refine c5 (List.cons.inj hl) λe1 q1_=>?_;subst q1_
   subst e1;have hj:=hnone j (hm j (.head _));k_extra "w"
   ·rename_i q;rw[hj] at q;exact absurd rfl q
   ·exact hJ ⟨rfl,rfl,l',rfl,λi hi=>hm i (.tail _ hi)⟩
 ·rintro acc _ hh_;refine k6 hh_ λq1_ q2_ _=>?_;clear hh_;subst q1_;subst q2_
  refine⟨hYr',λc hc=>?_⟩
  k_extra "w";rename_i e he;refine bI9 ?_;k_extra "w";rename_i b hb;refine c5 (j7 hb) λhb1 hb2=>?_
  refine c5 (j7 hb2) λhb3 hb4=>?_
  refine c5 (j7 hb4) λhb5 hb6=>?_
  exact m9 (D7 (((Sub.upd hD).trans (Sub.upd hc)).trans (Sub.upd he))) (h b hb6)
end
structure RuleOK(z:Lim)(v:V):Prop where
 ok:Internal.ok z 8 v=true
 few:∀ u,(f8 8 v u).length<64
 cld:∀ Y,Cld Y v
structure Nam(rules:List V)(nm:List (List Int)):Prop where
 len:nm.length=rules.length
 iff:∀ (i:Nat) l v,nm[i]?=some l->rules[i]?=some v->∀ y,y∈l.map V.int↔y∈f8 8 v (Str.ofString "line")
 l100:∀ l∈nm,l.length<=100
structure RsAt(Y:Hp)(rs:List Addr)(nm:List (List Int)):Prop where
 len:rs.length=nm.length
 at':∀ (i:Nat) r,rs[i]?=some r->Y r=some (.lst ((nm.getD i []).map .int))
theorem aa1{α:Type}{l:List α}{x y:α}{i:Nat}(h:(l++[x])[i]?=some y):l[i]?=some y∨(i=l.length/\y=x):=by
 by_cases hi:i<l.length
 ·rw[bM hi] at h;exact .inl h
 ·rw[aS (bg hi)] at h
  obtain⟨hlt,e⟩:=aj.mp h;have h0:i-l.length=0:=Nat.lt_one_iff.mp hlt;refine .inr ⟨cv (ee.mp h0) (bg hi),?_⟩;rw[<- e];simp[h0]
theorem RsAt.snoc{Y:Hp}{rs:List Addr}{nm:List (List Int)}{b:Addr}{l:List Int}(h:RsAt Y rs nm)(hb:Y b=none):RsAt (upd Y b (.lst (l.map .int))) (rs++[b]) (nm++[l]):=by
 refine⟨by rw[ar,ar,h.len];rfl,λi r e=>?_⟩
 rcases aa1 e with q | ⟨rfl,rfl⟩
 ·have hi:i<nm.length:=h.len▸(aj.mp q).1
  rw[aw,bM hi,<- aw];exact l5 (h.at' i r q) hb
 ·rw[d3,aw,h.len,aS (aI _),cD];rfl
theorem Nam.snoc{rules:List V}{nm:List (List Int)}{v:V}{l:List Int}(h:Nam rules nm)(hl:l.length<=100)(hi:∀ y,y∈l.map V.int↔y∈f8 8 v (Str.ofString "line")):Nam (rules++[v]) (nm++[l]):=by
 refine⟨by rw[ar,ar,h.len];rfl,λi l' v' e1 e2=>?_,λl' hl'=>?_⟩
 ·rcases aa1 e1 with q1 | ⟨q1,rfl⟩
  ·rcases aa1 e2 with q2 | ⟨q2,rfl⟩
   ·exact h.iff i l' v' q1 q2
   ·have:=(aj.mp q1).1;rw[h.len,q2] at this;exact absurd this (bE _)
  ·rcases aa1 e2 with q2 | ⟨q2,rfl⟩
   ·have:=(aj.mp q2).1;rw[<- h.len,q1] at this;exact absurd this (bE _)
   ·exact hi
 ·rcases au.mp hl' with q | q
  ·exact h.l100 l' q
  ·rw[ah.mp q];exact hl
theorem Nam.nil:Nam [] []:=⟨rfl,λi l v e=>(by cases e),λl hl=>(by cases hl)⟩
theorem RsAt.nm{Y:Hp}{rs:List Addr}{nm:List (List Int)}{rules:List V}{c:Addr}(h:RsAt Y rs nm)(hn:Nam rules nm)(hz:rules.length<=100)(hc:Y c=none):NmAt (upd Y c (.lst (rs.map .ref))) c nm:=
 ⟨⟨rs,d3 _ _ _,h.len,λi r e=>l5 (h.at' i r e) hc⟩,hn.len▸hz,hn.l100⟩
theorem bZ1{L:List V}(h:∀ y∈L,∃ i,y=.int i):∃ l:List Int,L=l.map .int:=by
 induction L with
 | nil=>exact⟨[],rfl⟩
 | cons y L ih=>
  obtain⟨l,rfl⟩:=ih λz hz=>h z (.tail _ hz)
  refine c6 (h y (.head _)) λi q1_=>?_;subst q1_
  exact⟨i::l,rfl⟩
section
variable{g:G}{d:Nat}{Y:Hp}{Q:V->Hp->Prop}{X:Str->Hp->Prop}
theorem ax6(N:Nm g){z:Lim}{rules:List V}{K:Hp->Prop}{turn:V->Hp->VP->(Hp->Prop)->Prop}(hR:∀ r∈rules,RuleOK z r)(hz:rules.length<=100)(hK:∀ Y',Sub Y Y'->K Y')
  (ht:∀ v Y yes no,c7 g (d+8+3) true "named" [v,.str (Str.ofString "line")] Y yes noX->turn v Y yes no)
  (h:∀ rs nm Y' c,Sub Y Y'->RsAt Y' rs nm->Nam rules nm->Y' c=none->Q (.ref c) (upd Y' c (.lst (rs.map .ref)))):CLoop rules K Y turn Q:=by
 refine CLoop.g (λrest acc Y'=>∃ done rs nm,rules=done++rest/\acc=List.map V.ref rs/\Sub Y Y'/\RsAt Y' rs nm/\Nam done nm) (al hz (by decide)) ⟨[],[],[],rfl,rfl,Sub.refl _,⟨rfl,λi r e=>(by cases e)⟩,Nam.nil⟩ (λJ hJ=>?_) ?_
 ·rintro v rest acc Y' hh_;refine I5 hh_ λdone rs nm e q1_ hs hr hn=>?_;clear hh_;subst q1_
  refine⟨hK Y' hs,ht _ _ _ _ ?_⟩;have hv:=hR v (by rw[e];simp)
  refine bH8 N hv.ok (hv.few _) (aG4 (.inl rfl) hv.ok).2 λb L hb hS hm=>?_
  obtain⟨l,rfl⟩:=bZ1 (L:=L) λy hy=>P7 (.inl rfl) hv.ok y ((hm y).mp hy)
  refine hJ ⟨done++[v],rs++[b],nm++[l],by rw[e,aF];rfl,by rw[ak];rfl,hs.trans (Sub.upd hb),hr.snoc hb,hn.snoc ?_ hm⟩
  have h1:=F6 hS.nodup λy hy=>(hm y).mp hy
  have h2:=hv.few (Str.ofString "line");rw[aa] at h1;lia
 ·rintro acc Y' hh_;refine I5 hh_ λdone rs nm e q1_ hs hr hn=>?_;clear hh_;subst q1_
  refine⟨hK Y' hs,λc hc=>h rs nm Y' c hs hr ?_ hc⟩
  rw[aL] at e;rw[e];exact hn
set_option tactic.hygienic true in
theorem bX5(N:Nm g){z:Lim}{la:Addr}{rules:List V}(hla:Y la=some (.lst rules))(hR:∀ r∈rules,RuleOK z r)(hz:rules.length<=100)(hA:∀ nm,Nam rules nm->∃ rk,Acy nm rk)
  (h:∀ b,Y b=none->Q (.ref b) (upd Y b (.lst []))):c7 g (d+12) true "ring_of" [.ref la] Y Q X:=by
 refine bJ7 N ?_;k_extra "w";refine ax6 (d:=d) N hR hz (λY' hs=>hs _ _ hla) (λv Y yes no hc=>?_) λrs nm Y' c hs hr hn hc=>?_
 ·k_extra "w"
  exact hc
 ·refine c6 (hA nm hn) λrk hacy=>?_
  have hN:=hr.nm hn hz hc;have hla':=hs _ _ hla;have hlen:=hn.len;k_extra "w";rename_i best hbest;refine C1 (λi Z' Y''=>∃ o3 o4,Sub (upd (upd Y' c (.lst (rs.map .ref))) best (.lst [])) Y''/\Z'=[some (.ref la),some (.ref c),some (.ref best),o3,o4]) ⟨none,none,Sub.refl _,rfl⟩ (λR J hR hJ=>?_) ?_
  ·rintro i _ Y'' hi hh_;refine j6 hh_ λo3 o4 hsub q1_=>?_;clear hh_;subst q1_
   have hN':=(hN.sub (Sub.upd hbest)).sub hsub;have hb:=hsub _ _ (d3 _ _ _);k_extra "w";refine bs5 (d:=d+8) N hN' hacy (by lia) (by lia) λb hb=>?_
   k_extra "w";rename_i e he;refine as1 ?_;k_extra "w";exact hJ ⟨_,_,(hsub.trans (Sub.upd hb)).trans (Sub.upd he),rfl⟩
  ·rintro _ Y'' hh_;refine j6 hh_ λo3 o4 hsub q1_=>?_;clear hh_;subst q1_
   k_extra "w";refine m9 (Y':=upd Y best (.lst [])) (Sub.trans ?_ hsub) (h best ?_)
   ·exact D7 (hs.trans (Sub.upd hc))
   ·refine c5 (j7 hbest) λh1 h2=>?_
    cases q:Y best with
    | none=>rfl
    | some o=>rw[hs _ _ q] at h2;cases h2
structure FormOK(rules tabs:List V)(C owed:Int):Prop where
 rule:∀ r∈rules,RuleOK ⟨rules.length,tabs.length,C⟩ r
 l1:1<=rules.length
 l40:rules.length<=40
 t5:tabs.length<=5
 tab:∀ t∈tabs,u4 t=true/\∀ Y,Cld Y t
 c0:0<=C
 c8:C<=8
 o0:0<=owed
 o1:owed<rules.length
 acy:∀ nm,Nam rules nm->∃ rk,Acy nm rk
theorem A5{i a b:Int}(h1:a<=i)(h2:i<=b):n9 (.int i) a b=true:=by
 show(decide (a<=i)&&decide (i<=b))=true;rw[decide_eq_true h1,decide_eq_true h2];rfl
set_option tactic.hygienic true in
theorem bi8(N:Nm g){la ta:Addr}{rules tabs:List V}{C owed:Int}(hla:Y la=some (.lst rules))(hta:Y ta=some (.lst tabs))(F:FormOK rules tabs C owed)
  (h:Q (.tup [.tup rules,.tup tabs,.int C,.int owed]) Y):c7 g (d+14) true "form_of" [.ref la,.ref ta,.int C,.int owed] Y Q X:=by
 refine bi2 N ?_;have t5:=F.t5;have l1:=F.l1;have l40:=F.l40;have hc:=A5 F.c0 F.c8;have ho:=A5 (b:=(rules.length:Int)-1) F.o0 (by have:=F.o1;lia)
 have okC:∀ Y,Ok Y (.int C):=λY a e=>by cases e
 have okO:∀ Y,Ok Y (.int owed):=λY a e=>by cases e
 k_extra "w";refine CLoop.g (λrest acc Y'=>Y=Y'/\∃ done,tabs=done++rest/\acc=(done.map λ_=>true).map V.bool) (by lia) ⟨rfl,[],rfl,rfl⟩ (λJ hJ=>?_) ?_
 ·rintro v rest acc _ hh_;obtain⟨rfl,done,e,rfl⟩:=hh_
  refine⟨hta,?_⟩;obtain⟨hv1,hv2⟩:=F.tab v (by rw[e];simp)
  k_extra "w";refine bE9 (d:=d+9) N (hv2 _) ?_;rw[hv1];exact hJ ⟨rfl,done++[v],by rw[e,aF];rfl,by rw[ak,ak];rfl⟩
 ·rintro acc _ hh_;obtain⟨rfl,done,e,rfl⟩:=hh_
  refine⟨hta,λc hcn=>?_⟩
  refine AllB.mk _ (d3 _ _ _) ?_;rw[show(done.map λ_=>true).all id=true by rw[dI];exact aB.mpr λ_ _=>rfl]
  k_extra "w";refine Q0 N (okC _) ?_;k_extra "w";refine Q0 N (okO _) ?_;k_extra "w";refine LoopR.held rules (by k_extra "heap") (Loop.g (λrest Z' Y'=>upd Y c (.lst ((done.map λ_=>true).map V.bool))=Y'/\(∀ x∈rest,x∈rules)/\∃ o,Z'=[some (.ref la),some (.ref ta),some (.int C),some (.int owed),some (.int rules.length),o]) ⟨rfl,λx hx=>hx,none,rfl⟩ (λR J hR hJ=>?_) ?_)
  ·rintro v rest _ _ hh_;obtain⟨rfl,hr,o,rfl⟩:=hh_
   refine⟨by k_extra "heap",?_⟩
   have hv:=F.rule v (hr v (by k_extra "mem"))
   have hok:=hv.ok;k_extra "w";refine ba9 (d:=d) (z:=⟨rules.length,tabs.length,C⟩) N (hv.cld _) ?_;k_extra "w";exact hJ ⟨rfl,λx hx=>hr x (.tail _ hx),_,rfl⟩
  ·rintro _ _ hh_;obtain⟨rfl,-,o,rfl⟩:=hh_
   refine⟨by k_extra "heap",?_⟩
   k_extra "w";refine bX5 (d:=d+1) N (rules:=rules) (by k_extra "heap") F.rule (by lia) F.acy λb hb=>?_
   k_extra "w";rename_i e he;refine as1 ?_;k_extra "w";exact m9 (((Sub.upd hcn).trans (Sub.upd hb)).trans (Sub.upd he)) h
end
noncomputable def am1(F:List Int)(y:V):Bool:=match y with
 | .int j=>decide (j∈F)
 | _=>false
noncomputable def C6(rules:List V)(F:List Int)(i:Nat):Bool:=!decide ((i:Int)∈F)&&(f8 8 (rules.getD i .none) (Str.ofString "line")).all (am1 F)
noncomputable def P5(rules:List V)(F:List Int):Option Nat:=(List.range rules.length).find? (C6 rules F)
class inductive Ordr (rules:List V):List Int->Prop
 | nil:Ordr rules []
 | snoc {F:List Int} {i:Nat} (h:Ordr rules F) (e:P5 rules F=some i):Ordr rules (F++[(i:Int)])
theorem aj5{rules:List V}{F:List Int}{i:Nat}(h:P5 rules F=some i):i<rules.length/\C6 rules F i=true:=⟨bc.mp (cz h),List.find?_some h⟩
theorem aZ1{rules:List V}{F:List Int}{i:Nat}(h:C6 rules F i=true):(i:Int)∉F:=λq=>by
 unfold C6 at h;rw[decide_eq_true q] at h;cases h
theorem Ordr.ok{rules:List V}{F:List Int}(h:Ordr rules F):F.Nodup/\∀ x∈F,0<=x/\x<rules.length:=by
 induction h with
 | nil=>exact⟨.nil,λx hx=>by cases hx⟩
 | snoc h e ih=>
  refine c5 (aj5 e) λh1 h2=>?_
  have h3:=aZ1 h2;refine⟨aV.mpr ⟨ih.1,by simp,λx hx y hy q=>?_⟩,λx hx=>?_⟩
  ·rw[ah.mp hy] at q;exact h3 (q▸hx)
  ·rcases au.mp hx with q | q
   ·exact ih.2 x q
   ·rw[ah.mp q];exact⟨aJ _,cC.mpr h1⟩
theorem C0{α:Type}{l:List α}{i:Nat}{x:α}(h:i<l.length):l[i]?=some (l.getD i x):=by rw[aw,ae h];rfl
theorem Nam.all{rules:List V}{nm:List (List Int)}(h:Nam rules nm){i:Nat}(hi:i<rules.length)(F:List Int):(nm.getD i []).all (λj=>decide (j∈F))=(f8 8 (rules.getD i .none) (Str.ofString "line")).all (am1 F):=by
 have hm:=h.iff i _ _ (C0 (x:=[]) (h.len▸hi)) (C0 (x:=.none) hi);rw[cS,aB,aB];constructor
 ·intro q y hy
  refine a9 (ai.mp ((hm y).mpr hy)) λj hj q1_=>?_;subst q1_
  exact q j hj
 ·intro q j hj
  exact q (.int j) ((hm _).mp (ai.mpr ⟨j,hj,rfl⟩))
theorem aU8{rules:List V}{nm:List (List Int)}{rk:Int->Nat}(hn:Nam rules nm)(hA:Acy nm rk){F:List Int}(hF:F.length<rules.length):∃ i,P5 rules F=some i:=by
 have key:∀ (k:Nat) (i:Nat),i<rules.length->(i:Int)∉F->rk i=k->∃ j,j<rules.length/\C6 rules F j=true:=by
  intro k;induction k using cV with
  | ind k ih=>
   intro i hi hiF hk;cases q:(nm.getD i []).all (λj=>decide (j∈F)) with
   | true=>exact⟨i,hi,by unfold C6;rw[decide_eq_false hiF,<- hn.all hi,q];rfl⟩
   | false=>
    refine a9 (List.all_eq_false.mp q) λj hj hjF=>?_
    have hjF:j∉F:=λe=>hjF (decide_eq_true e)
    refine c5 (hA.rng i j hj) λh0 h1=>?_
    have hd:=hA.dn i j hj;have e:((j.toNat:Nat):Int)=j:=bu h0;exact ih (rk j) (hk▸hd) j.toNat (by rw[<- hn.len];exact(eU h0).mpr h1) (by rw[e];exact hjF) (by rw[e])
 have ex:∃ i,i<rules.length/\((i:Nat):Int)∉F:=by
  refine ba λhno=>?_
  have hall:∀ i,i<rules.length->(i:Int)∈F:=λi hi=>ba λq=>hno ⟨i,hi,q⟩
  have:=F6 (l:=(List.range rules.length).map fun(i:Nat)=>V.int i) (k:=F.map .int) (List.Pairwise.map _ (λa b hab e=>hab (Int.ofNat.inj (V.int.inj e))) dJ) λy hy=>by
   refine a9 (ai.mp hy) λi hi q1_=>?_;subst q1_
   exact ai.mpr ⟨_,hall i (bc.mp hi),rfl⟩
  rw[aa,aa,aN] at this;exact bE _ (aY hF this)
 refine a9 ex λi hi hiF=>?_
 refine a9 (key _ i hi hiF rfl) λj hj hs=>?_
 cases q:P5 rules F with
 | some k=>exact⟨k,rfl⟩
 | none=>exact absurd hs (List.find?_eq_none.mp q j (bc.mpr hj))
theorem bu8{p:Nat->Bool}{n i:Nat}(hi:i<n)(hp:p i=true)(hb:∀ k,k<i->p k=false):(List.range n).find? p=some i:=by
 rw[List.find?_eq_some_iff_getElem];refine⟨hp,i,by rw[aN];exact hi,List.getElem_range ..,λj hj=>?_⟩
 rw[List.getElem_range,hb j hj];rfl
theorem aS3{f:Addr}{Y YN Y':Hp}{o:AObj}(h1:Sub Y YN)(h2:x6 f YN Y')(h3:Y' f=some o):Sub (upd Y f o) Y':=λa o' e=>by
 by_cases q:a=f
 ·subst q;rw[d3] at e;rw[h3];exact e
 ·rw[d8 _ _ q] at e;exact h2 a o' q (h1 _ _ e)
theorem S5{Y Y':Hp}{a:Addr}(h:Sub Y Y')(k:Y' a=none):Y a=none:=by
 cases q:Y a with
 | none=>rfl
 | some o=>rw[h _ _ q] at k;cases k
section
variable{g:G}{d:Nat}{Y:Hp}{Q:V->Hp->Prop}{X:Str->Hp->Prop}
set_option tactic.hygienic true in
theorem ch0(N:Nm g){z:Lim}{rules tabs:List V}{x y:V}(hR:∀ r∈rules,RuleOK z r)(hz:rules.length<=100)(hA:∀ nm,Nam rules nm->∃ rk,Acy nm rk)
  (h:∀ f F,Y f=none->Ordr rules F->F.length=rules.length->Q (.ref f) (upd Y f (.lst (F.map .int)))):c7 g (d+12) true "order_of" [.tup [.tup rules,.tup tabs,x,y]] Y Q X:=by
 refine bA9 N ?_;k_extra "w";refine ax6 (d:=d) N hR hz (λY' hs=>trivial) (λv Y yes no hc=>?_) λrs nm Y' c hs hr hn hc=>?_
 ·k_extra "w"
  exact hc
 refine c6 (hA nm hn) λrk hacy=>?_
 have hN:=hr.nm hn hz hc;have hlen:=hn.len;have hrl:=hr.len;k_extra "w";rename_i f hf;generalize hYN:upd Y' c (.lst (rs.map .ref))=YN at hf hN;have hsN:Sub Y YN:=by rw[<- hYN];exact hs.trans (Sub.upd hc)
 have hcN:YN c=some (.lst (rs.map .ref)):=by rw[<- hYN];exact d3 _ _ _
 have hcf:c≠f:=j5 hcN hf;have hrsN:∀ (i:Nat) r,rs[i]?=some r->YN r=some (.lst ((nm.getD i []).map .int)):=λi r e=>by rw[<- hYN];exact l5 (hr.at' i r e) hc
 have hcl:(rs.map V.ref).length=rules.length:=by rw[aa,hrl,hlen]
 have hcl2:(rs.map V.ref).length<=10000:=by lia
 refine Whl.g (λm Z' Y''=>∃ (F:List Int) (o3:Option V),Ordr rules F/\m=rules.length-F.length/\F.length<=rules.length/\x6 f YN Y''/\Y'' f=some (.lst (F.map .int))/\
  Z'=[some (.tup [.tup rules,.tup tabs,x,y]),some (.ref c),some (.ref f),o3]) (rules.length-0) ⟨[],none,.nil,rfl,ay _,x6.upd,d3 _ _ _,rfl⟩ λR J hR hJ=>?_
 rintro m _ Y'' hh_;refine bB7 hh_ λF o3 hF q1_ hFl hst hYf q2_=>?_;clear hh_;subst q1_;subst q2_
 have hFm:(F.map V.int).length=F.length:=aa _;have hFz:(F.map V.int).length<=10000:=by lia
 have hc'':=hst c _ hcf hcN;k_extra "w"
 ·rename_i hlt
  have hlt:F.length<rules.length:=by lia
  refine C1 (λi Z' Y3=>∃ (o3:Option V),(∀ k,k<i->C6 rules F k=false)/\x6 f YN Y3/\Y3 f=some (.lst (F.map .int))/\Z'=[some (.tup [.tup rules,.tup tabs,x,y]),some (.ref c),some (.ref f),o3]) ⟨o3,λk hk=>absurd hk (bW _),hst,hYf,rfl⟩ (λR2 J2 hR2 hJ2=>?_) ?_
  ·rintro i _ Y3 hi hh_;refine G9 hh_ λo3 hno hst3 hYf3 q1_=>?_;clear hh_;subst q1_
   have e0:(0:Int)+(i:Int)=i:=bI _;rw[e0];have hi':i<rules.length:=by lia
   have hc3:=hst3 c _ hcf hcN;obtain⟨r,hr'⟩:∃ r,rs[i]?=some r:=⟨_,ae (by lia)⟩
   have hrN:=hrsN i r hr';have hr3:=hst3 r _ (j5 hrN hf) hrN;have hnl:(nm.getD i []).length<=100:=hN.len;k_extra "w";refine ag4 ?_;k_extra "w"
   ·rename_i hiF
    exact hJ2 ⟨_,λk hk=>by
     rcases dK.mp hk with q | rfl
     ·exact hno k q
     ·unfold C6;rw[decide_eq_true hiF];rfl,hst3,hYf3,rfl⟩
   ·rename_i hiF
    refine Idx.mk (by lia) (by lia) (by lia) λx hx=>?_
    obtain rfl:x=.ref r:=by
     have e:(rs.map V.ref)[i]?=some (.ref r):=by rw[aq,hr'];rfl
     exact Option.some.inj (hx.symm.trans e)
    k_extra "w";refine CLoop.g (λrest acc Y4=>Y3=Y4/\∃ done todo:List Int,nm.getD i []=done++todo/\rest=todo.map .int/\acc=(done.map λj=>decide (j∈F)).map V.bool) (by rw[aa];lia) ⟨rfl,[],_,rfl,rfl,rfl⟩ (λJ3 hJ3=>?_) ?_
    ·rintro v rest acc _ hh_;obtain⟨rfl,done,todo,e,hrest,rfl⟩:=hh_
     refine⟨hr3,?_⟩;cases todo with
     | nil=>cases hrest
     | cons j todo=>
      refine c5 (List.cons.inj hrest) λe1 q1_=>?_;subst q1_
      subst e1;k_extra "w";refine aG3 ?_;exact hJ3 ⟨rfl,done++[j],todo,by rw[e,aF];rfl,rfl,by rw[ak,ak];rfl⟩
    ·rintro acc _ hh_;obtain⟨rfl,done,todo,e,hrest,rfl⟩:=hh_
     refine⟨hr3,λq hq=>?_⟩
     obtain rfl:todo=[]:=by cases todo with | nil=>rfl | cons _ _=>cases hrest
     rw[aL] at e;refine AllB.mk _ (d3 _ _ _) ?_;have ea:(done.map λj=>decide (j∈F)).all id=(f8 8 (rules.getD i .none) (Str.ofString "line")).all (am1 F):=by
      rw[<- hn.all hi',e,dI];rfl
     rw[ea];have hqf:f≠q:=j5 hYf3 hq;have hYf4:upd Y3 q (.lst ((done.map λj=>decide (j∈F)).map V.bool)) f=some (.lst (F.map .int)):=l5 hYf3 hq
     have hst4:x6 f YN (upd Y3 q (.lst ((done.map λj=>decide (j∈F)).map V.bool))):=hst3.sub (Sub.upd hq)
     k_extra "w"
     ·rename_i hall
      have hs:C6 rules F i=true:=by unfold C6;rw[decide_eq_false hiF,hall];rfl
      have hnext:P5 rules F=some i:=bu8 hi' hs hno;exact hR2<|hJ ⟨rules.length-(F++[(i:Int)]).length,by rw[ar];exact ao3 hlt,F++[(i:Int)],_,.snoc hF hnext,rfl,by rw[ar];exact hlt,hst4.trans x6.upd,by rw[d3,ak];rfl,rfl⟩
     ·rename_i hall
      exact hJ2 ⟨_,λk hk=>by
       rcases dK.mp hk with q | rfl
       ·exact hno k q
       ·unfold C6;rw[hall,cE],hst4,hYf4,rfl⟩
  ·rintro _ Y3 hh_;refine G9 hh_ λo3 hno hst3 hYf3 q1_=>?_;clear hh_;subst q1_
   refine c6 (aU8 hn hacy hlt) λi hi=>?_
   refine c5 (aj5 hi) λh1 h2=>?_
   have h3:=hno i (by rw[hcl];lia)
   rw[h2] at h3;cases h3
 ·have hFe:F.length=rules.length:=by lia
  exact hR<|m9 (aS3 hsN hst hYf) (h f F (S5 hsN hf) hF hFe)
end
theorem bF4{α β:Type}(f:α->β)(l:List α)(i:Nat):(l.map f).eraseIdx i=(l.eraseIdx i).map f:=by
 induction l generalizing i with
 | nil=>rfl
 | cons x l ih=>cases i with
  | zero=>rfl
  | succ i=>exact congrArg (f x :: ·) (ih i)
section
variable{g:G}{d:Nat}{Y:Hp}{Q:V->Hp->Prop}{X:Str->Hp->Prop}
theorem md{x k:Int}(h:0<k):0<=x%k/\x%k<k:=⟨Int.emod_nonneg _ (eW h),Int.emod_lt_of_pos _ h⟩
theorem cj4(N:Nm g){cell most:Int}(hm:7<=most)(hm':most<=40)(h:∀ m t c,1<=m->m<=most->0<=t->t<=5->0<=c->c<=8->Q (.tup [.int m,.int t,.int c]) Y):c7 g (d+1) true "_law_sizes" [.int cell,.int most] Y Q X:=by
 refine bW6 N ?_;have k7:∀ m t:Int,1<=m->m<=most->0<=t->t<=5->wSs g d true au2 [some (.int cell),some (.int most),some (.int m),some (.int t),none] Y (e8 Q) (xK X):=λm t a1 a2 a3 a4=>by
  have e1:=md (x:=cell / 88128) (k:=4) (by decide)
  have e2:=md (x:=cell / 2820096) (k:=5) (by decide)
  k_extra "w"
  ·exact d4 (h _ _ _ a1 a2 a3 a4 (by lia) (by lia))
  ·exact d4 (h _ _ _ a1 a2 a3 a4 (by lia) (by lia))
 have k4:∀ m:Int,1<=m->m<=most->wSs g d true aD9 [some (.int cell),some (.int most),some (.int m),none,none] Y (e8 Q) (xK X):=λm a1 a2=>by
  have e1:=md (x:=cell / 1224) (k:=3) (by decide)
  have e2:=md (x:=cell / 29376) (k:=3) (by decide)
  k_extra "w"
  ·exact Stop.mk (k7 _ _ a1 a2 (by lia) (by lia))
  ·exact Stop.mk (k7 _ _ a1 a2 (by lia) (by lia))
 have e1:=md (x:=cell) (k:=6) (by decide)
 have e2:=md (x:=cell / 36) (k:=most-6) (by lia)
 k_extra "w"
 ·exact Stop.mk (k4 _ (by lia) (by lia))
 ·exact Stop.mk (k4 _ (by lia) (by lia))
structure Prm(n:Nat)(O:List Int):Prop where
 len:O.length=n
 nd:O.Nodup
 rng:∀ x∈O,0<=x/\x<n
theorem aL6(n:Nat):k8 0 1 n=((List.range n).map fun(i:Nat)=>(i:Int)).map V.int:=by
 unfold k8;rw[aZ];refine cX λi z_=>?_
 show V.int (0+(i:Int)*1)=V.int i;rw[bI,Int.mul_one]
theorem bX9{l:List Int}{k:Nat}{x:Int}(h:l[k]?=some x)(hn:l.Nodup):x∉l.eraseIdx k/\(l.eraseIdx k).Nodup/\(∀ y,y∈l.eraseIdx k->y∈l)/\(l.eraseIdx k).length+1=l.length:=by
 obtain⟨hk,rfl⟩:=aj.mp h;refine⟨λq=>?_,hn.sublist (List.eraseIdx_sublist _ _),λy hy=>List.mem_of_mem_eraseIdx hy,by rw[List.length_eraseIdx,if_pos hk];exact Nat.sub_add_cancel (bx (ay _) hk)⟩
 refine a9 (List.mem_eraseIdx_iff_getElem?.mp q) λj hj e=>?_
 obtain⟨hj',e'⟩:=aj.mp e;exact hj ((List.getElem_inj hn).mp e')
theorem bB0{Y:Hp}{s a b:Addr}{x x' y y' z z':AObj}:upd (upd (upd (upd (upd (upd Y s x) a y) b z) s x') a y') b z'=upd (upd (upd Y s x') a y') b z':=by
 funext c
 unfold upd;by_cases h1:c=b
 ·simp only[h1,if_true]
 ·by_cases h2:c=a
  ·simp only[h1,h2,if_true,if_false]
  ·by_cases h3:c=s
   ·simp only[h1,h2,h3,if_true,if_false]
   ·simp only[h1,h2,h3,if_false]
set_option tactic.hygienic true in
theorem bl8(N:Nm g){st:Addr}{n:Int}{many:Nat}(h0:0<=n)(h1:n<2147483647)(hz:many<=100)(h:∀ b O n',b≠st->Y b=none->Prm many O->0<=n'->n'<2147483647->Q (.ref b) (upd (upd Y st (.lst [.int n'])) b (.lst (O.map .int)))) :
  c7 g (d+2) true "_law_order" [.ref st,.int many] (upd Y st (.lst [.int n])) Q X:=by
 refine bX8 N ?_;k_extra "w";rename_i a ha b hb;refine c5 (j7 ha) λha1 ha2=>?_
 refine c5 (j7 hb) λhb1 hb2=>?_
 refine c5 (j7 hb2) λhb3 hb4=>?_
 have lh:(k8 0 1 (many:Int).toNat).length=many:=by rw[show(many:Int).toNat=many from rfl,aL6,aa,aa,aN]
 rw[show(many:Int).toNat=many from rfl,aL6]
 refine Whl.g (λm Z' Y'=>∃ (L O:List Int) (n:Int),m=L.length/\L.length+O.length=many/\O.Nodup/\L.Nodup/\(∀ x∈O,x∉L)/\(∀ x,x∈O∨x∈L->0<=x/\x<many)/\0<=n/\n<2147483647/\Y'=upd (upd (upd Y st (.lst [.int n])) a (.lst (L.map .int))) b (.lst (O.map .int))/\
  Z'=[some (.ref st),some (.int many),some (.ref a),some (.ref b)]) many ⟨_,[],n,?_,?_,.nil,?_,λx hx=>(by cases hx),?_,h0,h1,rfl,rfl⟩ λR J hR hJ=>?_
 ·rw[aa,aN]
 ·rw[aa,aN];rfl
 ·exact List.Pairwise.map _ (λa b hab e=>hab (Int.ofNat.inj e)) dJ
 ·rintro x (hx | hx)
  ·cases hx
  ·refine a9 (ai.mp hx) λi hi q1_=>?_;subst q1_
   exact⟨aJ i,cC.mpr (bc.mp hi)⟩
 ·rintro m _ _ hh_;obtain⟨L,O,n,rfl,hlo,hO,hL,hd,hr,h0,h1,rfl,rfl⟩:=hh_
  have hl1:(L.map V.int).length=L.length:=aa _;have hl2:(O.map V.int).length=O.length:=aa _;have hab:b≠a:=hb1;k_extra "w"
  ·rename_i hpos
   refine E2 N (n:=n) (by k_extra "heap") h0 h1 (by lia) (by lia) λr n' hr0 hr1 hn hn'=>?_
   k_extra "w";intro x hx;rw[aq] at hx;refine a9 (aA.mp hx) λy hy q1_=>?_;subst q1_
   refine R6 (bX9 hy hL) λe1 e2 e3 e4=>?_
   k_extra "w";refine hJ ⟨(L.eraseIdx r.toNat).length,by lia,L.eraseIdx r.toNat,O++[y],n',rfl,by rw[ar];show _+(O.length+1)=_;lia,?_,e2,?_,?_,hn,hn',?_,rfl⟩
   ·refine aV.mpr ⟨hO,by simp,λu hu w hw q=>?_⟩
    rw[ah.mp hw] at q;exact hd u hu (q▸aD hy)
   ·intro u hu q
    rcases au.mp hu with hu | hu
    ·exact hd u hu (e3 u q)
    ·rw[ah.mp hu] at q;exact e1 q
   ·rintro u (hu | hu)
    ·rcases au.mp hu with hu | hu
     ·exact hr u (.inl hu)
     ·rw[ah.mp hu];exact hr y (.inr (aD hy))
    ·exact hr u (.inr (e3 u hu))
   ·rw[bF4,bB0,ak];rfl
  ·obtain rfl:L=[]:=bf.mp (by lia)
   refine hR<|m9 ?_ (h b O n hb3 hb4 ⟨by simpa using hlo,hO,λx hx=>hr x (.inl hx)⟩ h0 h1)
   exact D7 (Sub.upd (by rw[d8 _ _ ha1];exact ha2))
end
noncomputable def u5(p:Int×Int×Int):V:=.tup [.int p.1,.int p.2.1,.int p.2.2]
structure RowB(p:Int×Int×Int):Prop where
 a0:0-1000000000<=p.1
 a1:p.1<=1000000000
 b0:0-1000000000<=p.2.1
 b1:p.2.1<=1000000000
 c0:0<=p.2.2
 c1:p.2.2<=100
theorem RowB.ok{p:Int×Int×Int}(h:RowB p):t8 (u5 p)=true:=by
 show(n9 (.int p.1) _ _&&(n9 (.int p.2.1) _ _&&n9 (.int p.2.2) _ _))=true;rw[A5 h.a0 h.a1,A5 h.b0 h.b1,A5 h.c0 h.c1];rfl
theorem bp3{Y:Hp}(p:Int×Int×Int):Cld Y (u5 p):=.t3 (.int _) (.int _) (.int _)
theorem bD7{R:List (Int×Int×Int)}(h1:1<=R.length)(h20:R.length<=20)(hv:∀ p∈R,RowB p)(hp:R.Pairwise (λp q=>p.1<q.1)):u4 (.tup (R.map u5))=true:=by
 show((decide (1<=(R.map u5).length)&&decide ((R.map u5).length<=20))&&((R.map u5).all t8&&(List.range ((R.map u5).length-1)).all (D5 (R.map u5))))=true;rw[aa,decide_eq_true h1,decide_eq_true h20];have e1:(R.map u5).all t8=true:=by
  rw[aB];intro x hx;refine a9 (ai.mp hx) λp hp q1_=>?_;subst q1_
  exact(hv p hp).ok
 rw[e1];show(List.range (R.length-1)).all _=true;rw[aB];intro k hk;have hk:k<R.length-1:=bc.mp hk;have hk1:k<R.length:=aY hk (Nat.sub_le _ _);have hk2:k+1<R.length:=Nat.add_lt_of_lt_sub hk;unfold D5;have g1:(R.map u5)[k]?=some (u5 R[k]):=by rw[aq,ae hk1];rfl
 have g2:(R.map u5)[k+1]?=some (u5 R[k+1]):=by rw[aq,ae hk2];rfl
 rw[V7 g1,V7 g2];exact decide_eq_true (cw.mp hp k (k+1) hk1 hk2 (bp k))
noncomputable def j8(a b:Addr)(Y Y':Hp):Prop:=∀ c o,c≠a->c≠b->Y c=some o->Y' c=some o
theorem j8.trans{a b:Addr}{Y zs Y2:Hp}(h:j8 a b Y zs)(k:j8 a b zs Y2):j8 a b Y Y2:=λc o h1 h2 e=>k c o h1 h2 (h c o h1 h2 e)
theorem j8.l{a b:Addr}{Y:Hp}{x:AObj}:j8 a b Y (upd Y a x):=λc o h1 z_ e=>by rw[d8 _ _ h1];exact e
theorem j8.r{a b:Addr}{Y:Hp}{x:AObj}:j8 a b Y (upd Y b x):=λc o z_ h2 e=>by rw[d8 _ _ h2];exact e
theorem j8.sub{a b:Addr}{Y zs Y2:Hp}(h:j8 a b Y zs)(k:Sub zs Y2):j8 a b Y Y2:=λc o h1 h2 e=>k c o (h c o h1 h2 e)
section
variable{g:G}{d:Nat}{Y:Hp}{Q:V->Hp->Prop}{X:Str->Hp->Prop}
theorem ah7(N:Nm g){st:Addr}{n:Int}(hst:Y st=some (.lst [.int n]))(h0:0<=n)(h1:n<2147483647)(h:∀ r n',-1000000000<=r->r<=1000000000->0<=n'->n'<2147483647->Q (.int r) (upd Y st (.lst [.int n']))):c7 g (d+2) true "_law_number" [.ref st] Y Q X:=by
 have:=aN5 (d:=d) (Y:=Y) (Q:=Q) (X:=X) N (st:=st) h0 h1 h;rw[P3 hst] at this;exact this
open Internal renaming E2->y16,ah7->y17
theorem ck8:True:=by
 k_with "call"=>first | (refine y16 (by assumption) (by k_extra "heap") (by assumption) (by assumption) (by k_extra "n") (by k_extra "n") ?_;intro _ _ _ _ _ _) | (refine y17 (by assumption) (by k_extra "heap") (by assumption) (by assumption) ?_;intro _ _ _ _ _ _)
 trivial
theorem af7(N:Nm g){st ra:Addr}{n s pct k:Int}{many:V}{R:List V}{QQ:d6}{XX:j3}(hne:ra≠st)(hst:Y st=some (.lst [.int n]))(hra:Y ra=some (.lst R))(hR:R.length<=100)(h0:0<=n)(h1:n<2147483647)
  (hq:∀ num s' n' Y',-1000000000<=num->num<=1000000000->s+1<=s'->s'<=s+20000->0<=n'->n'<2147483647->Y' st=some (.lst [.int n'])->Y' ra=some (.lst (R++[.tup [.int s,.int num,.int pct]]))->j8 st ra Y Y'->
   QQ .next [some (.ref st),some many,some (.int s'),some (.ref ra),some (.int k),some (.int pct)] Y') :
  wSs g (d+2) true ap7 [some (.ref st),some many,some (.int s),some (.ref ra),some (.int k),some (.int pct)] Y QQ XX:=by
 have hne':=Ne.symm hne;k_extra "w"
 ·exact hq _ _ _ _ (by assumption) (by assumption) (by lia) (by lia) (by assumption) (by assumption) (d3 _ _ _) (by k_extra "heap") (((j8.l.trans j8.r).trans j8.l).trans (j8.l.trans j8.l))
 ·exact hq _ _ _ _ (by assumption) (by assumption) (by lia) (by lia) (by assumption) (by assumption) (d3 _ _ _) (by k_extra "heap") (((j8.l.trans j8.r).trans j8.l).trans (j8.l.trans j8.l))
end
section
variable{g:G}{d:Nat}{Y:Hp}{Q:V->Hp->Prop}{X:Str->Hp->Prop}
theorem bJ8{st ra:Addr}{Y Y':Hp}{o:AObj}(h1:j8 st ra Y Y')(h2:Y' st=some o)(h3:Y ra=none):Sub (upd Y st o) Y':=λa o' e=>by
 by_cases q:a=st
 ·subst q;rw[d3] at e;rw[h2];exact e
 ·rw[d8 _ _ q] at e
  exact h1 a o' q (λq=>by rw[q,h3] at e;cases e) e
open Internal renaming E2->y18,ah7->y19
theorem cl4:True:=by
 k_with "call"=>first | (refine y18 (by assumption) (by k_extra "heap") (by assumption) (by assumption) (by k_extra "n") (by k_extra "n") ?_;intro _ _ _ _ _ _) | (refine y19 (by assumption) (by k_extra "heap") (by assumption) (by assumption) ?_;intro _ _ _ _ _ _)
 trivial
def am2(st ra:Addr)(Y:Hp)(s:Int)(many:Nat)(i:Nat)(Z':Lo)(Y':Hp):Prop:=
 ∀ P_:Prop,(∀ (R:List (Int×Int×Int)) (s' n':Int) (o4 o5:Option V) (hl:R.length=i) (hb:∀ p∈R,RowB p) (hp:R.Pairwise (λp q=>p.1<q.1)) (hlt:∀ p∈R,p.1<s') (hs:s<=s') (hs':s'<=s+20000*i) (hn:0<=n') (hn':n'<2147483647)
  (hst:Y' st=some (.lst [.int n'])) (hra:Y' ra=some (.lst (R.map u5))) (hS:j8 st ra Y Y') (e:Z'=[some (.ref st),some (.int many),some (.int s'),some (.ref ra),o4,o5]),P_)->P_
set_option tactic.hygienic true in
theorem bR0(N:Nm g){st:Addr}{n s:Int}{many:Nat}(hst:Y st=some (.lst [.int n]))(h0:0<=n)(h1:n<2147483647)(hm1:1<=many)(hm20:many<=20)(hs0:0-1000000000<=s)(hs1:s+20000*many<=1000000000)
  (h:∀ t n',u4 t=true->(∀ Y,Cld Y t)->0<=n'->n'<2147483647->Q t (upd Y st (.lst [.int n']))) :
  wSs g (d+2) true ai4 [some (.ref st),some (.int many),some (.int s),none,none,none] Y (e8 Q) (xK X):=by
 k_extra "w";rename_i ra hra;have hne:ra≠st:=λe=>by rw[e,hst] at hra;cases hra
 refine C1 (am2 st ra Y s many) (λ_ k_=>k_ [] s n none none rfl (λp hp=>(by cases hp)) .nil (λp hp=>(by cases hp)) (fc _) (by lia) h0 h1 (l5 hst hra) (d3 _ _ _) j8.r rfl) (λR J hR hJ=>?_) ?_
 ·rintro i _ Y' hi hh_;refine hh_ _ ?_;clear hh_;rintro R s' n' o4 o5 hl hb hp hlt hs hs' hn hn' hst' hra' hSt rfl
  have hRl:(R.map u5).length<=100:=by rw[aa];lia
  have fin:∀ pct num s2 n2 Y3 o4 o5,0<=pct->pct<=100->-1000000000<=num->num<=1000000000->s'+1<=s2->s2<=s'+20000->0<=n2->n2<2147483647->Y3 st=some (.lst [.int n2])->Y3 ra=some (.lst (R.map u5++[.tup [.int s',.int num,.int pct]]))->j8 st ra Y Y3->
    am2 st ra Y s many (i+1) [some (.ref st),some (.int many),some (.int s2),some (.ref ra),o4,o5] Y3:=λpct num s2 n2 Y3 o4 o5 p0 p1 q0 q1 q2 q3 q4 q5 q6 q7 q8=>by
   refine(λ_ k_=>k_ (R++[(s',num,pct)]) s2 n2 _ _ (by rw[ar,hl];rfl) (λp hp'=>?_) (eG.mpr ⟨hp,by simp,λp hp' q hq=>by rw[ah.mp hq];exact hlt p hp'⟩) (λp hp'=>?_) (by lia) (by lia) q4 q5 q6 (by rw[q7,ak];rfl) q8 rfl)
   ·rcases au.mp hp' with q | q
    ·exact hb p q
    ·rw[ah.mp q];exact⟨by show _<=s';lia,by show s'<=_;lia,by show _<=num;lia,by show num<=_;lia,p0,p1⟩
   ·rcases au.mp hp' with q | q
    ·have:=hlt p q;lia
    ·rw[ah.mp q];show s'<s2;lia
  k_extra "w"
  ·exact Stop.mk (af7 (d:=d) N hne (d3 _ _ _) (by k_extra "heap") hRl (by assumption) (by assumption) λnum s2 n2 Y3 q0 q1 q2 q3 q4 q5 q6 q7 q8=>RJ.next hi (hJ (fin _ num s2 n2 Y3 _ _ (by decide) (by decide) q0 q1 q2 q3 q4 q5 q6 q7 (((hSt.trans j8.l).trans j8.l).trans q8))))
  ·exact Stop.mk (af7 (d:=d) N hne (d3 _ _ _) (by k_extra "heap") hRl (by assumption) (by assumption) λnum s2 n2 Y3 q0 q1 q2 q3 q4 q5 q6 q7 q8=>RJ.next hi (hJ (fin _ num s2 n2 Y3 _ _ (by decide) (by decide) q0 q1 q2 q3 q4 q5 q6 q7 (((hSt.trans j8.l).trans j8.l).trans q8))))
  ·rename_i pct _ p0 p1 _ _ _ _ _ _ _ _ _
   exact Stop.mk (af7 (d:=d) N hne (d3 _ _ _) (by k_extra "heap") hRl (by assumption) (by assumption) λnum s2 n2 Y3 q0 q1 q2 q3 q4 q5 q6 q7 q8=>RJ.next hi (hJ (fin _ num s2 n2 Y3 _ _ p0 (by lia) q0 q1 q2 q3 q4 q5 q6 q7 (((hSt.trans j8.l).trans j8.l).trans q8))))
 ·rintro _ Y' hh_;refine hh_ _ ?_;clear hh_;rintro R s' n' o4 o5 hl hb hp hlt hs hs' hn hn' hst' hra' hSt rfl
  have hl:R.length=many:=by rw[hl];lia
  have hRl:(R.map u5).length<=10000:=by rw[aa];lia
  k_extra "w";refine m9 (bJ8 hSt hst' hra) (h _ n' (bD7 (by lia) (by lia) hb hp) (λY=>.tup (by rw[aa];lia) λx hx=>?_) hn hn')
  refine a9 (ai.mp hx) λp _ q1_=>?_;subst q1_
  exact bp3 p
end
section
variable{g:G}{d:Nat}{Y:Hp}{Q:V->Hp->Prop}{X:Str->Hp->Prop}
open Internal renaming K6->y20
theorem ck6:True:=by
 k_with "call"=>(refine y20 (by assumption) (by k_extra "n") (by k_extra "n") (by k_extra "n") (by k_extra "n") ?_;intro _ _ _ _ _ _)
 trivial
theorem ba7(N:Nm g){st:Addr}{n:Int}(h0:0<=n)(h1:n<2147483647)(h:∀ t n',u4 t=true->(∀ Y,Cld Y t)->0<=n'->n'<2147483647->Q t (upd Y st (.lst [.int n']))) :
  c7 g (d+3) true "_law_table" [.ref st] (upd Y st (.lst [.int n])) Q X:=by
 refine bw4 N ?_;have k5:∀ (n s m:Int),0<=n->n<2147483647->1<=m->m<=20->0-1000000000<=s->s+20000*m<=1000000000->wSs g (d+2) true ai4 [some (.ref st),some (.int m),some (.int s),none,none,none] (upd Y st (.lst [.int n])) (e8 Q) (xK X):=λn s m a3 a4 a5 a6 a7 a8=>by
  obtain⟨m,rfl⟩:=aT (show 0<=m by lia)
  refine bR0 N (d3 _ _ _) a3 a4 (by lia) (by lia) a7 a8 λt n' b1 b2 b3 b4=>?_
  rw[O0];exact h t n' b1 b2 b3 b4
 have k4:∀ (n m:Int),0<=n->n<2147483647->1<=m->m<=20->wSs g (d+2) true av7 [some (.ref st),some (.int m),none,none,none,none] (upd Y st (.lst [.int n])) (e8 Q) (xK X):=λn m a3 a4 a5 a6=>by
  k_extra "w";all_goals exact Stop.mk (k5 _ _ _ (by assumption) (by assumption) a5 a6 (by lia) (by lia))
 k_extra "w"
 ·exact Stop.mk (k4 _ _ (by assumption) (by assumption) (by lia) (by lia))
 ·exact Stop.mk (k4 _ _ (by assumption) (by assumption) (by lia) (by lia))
end
theorem B4{z:Lim}{n:Nat}{w:Str}{args:List V}(h1:siz w=some ((args.length:Int)+1))(h2:fit z w args=true)(h3:∀ x∈i4 w args,ok z n x=true):ok z (n+1) (.tup (.str w::args))=true:=by
 show((siz w==some ((args.length:Int)+1))&&fit z w args&&(i4 w args).all (ok z n))=true;rw[h1,h2,aB.mpr h3,beq_self_eq_true];rfl
theorem GR.mono{z:Lim}{see see':Int->Prop}{wd wd':Str->Prop}(hs:∀ i,see i->see' i)(hw:∀ x,wd x->wd' x){d:Nat}{r:V}(h:GR z see wd d r):GR z see' wd' d r:=by
 induction h with
 | num a b=>exact .num a b
 | line a=>exact .line (hs _ a)
 | earlier a b=>exact .earlier a b
 | paper a=>exact .paper (hw _ a)
 | part _ a b ih=>exact .part ih a b
 | table _ a b ih=>exact .table ih a b
 | twol a _ _ i1 i2=>exact .twol a i1 i2
 | twor a _ _ i1 i2=>exact .twor a i1 i2
 | wherl _ _ _ i1 i2 i3=>exact .wherl i1 i2 i3
 | wherr _ _ _ i1 i2 i3=>exact .wherr i1 i2 i3
 | chol a b _ _ i1 i2=>exact .chol a b i1 i2
 | chor a b _ _ i1 i2=>exact .chor a b i1 i2
theorem R1{x a:V}{l:List V}{P:V->Prop}(e:l=[a])(h:P a)(hx:x∈l):P x:=by subst e;rw[ah.mp hx];exact h
theorem F4{x a b:V}{l:List V}{P:V->Prop}(e:l=[a,b])(ha:P a)(hb:P b)(hx:x∈l):P x:=by
 subst e;rcases am.mp hx with rfl | hx
 ·exact ha
 ·exact R1 rfl hb hx
theorem X5{x a b c:V}{l:List V}{P:V->Prop}(e:l=[a,b,c])(ha:P a)(hb:P b)(hc:P c)(hx:x∈l):P x:=by
 subst e;rcases am.mp hx with rfl | hx
 ·exact ha
 ·exact F4 rfl hb hc hx
theorem aL7{z:Lim}{w:Str}{l:List V}(a:w∈[("add" : Str),"take","least","most"]):fit z w l=true:=by
 simp only[am,aC,or_false] at a
 rcases a with rfl | rfl | rfl | rfl
 ·exact ay7 _ _
 ·exact aC7 _ _
 ·exact an2 _ _
 ·exact aI6 _ _
theorem GR.ok{z:Lim}{see:Int->Prop}{wd:Str->Prop}(hs:∀ i,see i->0<=i/\i<z.L)(hw:∀ x,wd x->m5 x=true){d:Nat}{r:V}(h:GR z see wd d r):∀ {n:Nat},d<=n->Internal.ok z n r=true:=by
 induction h with
 | num a b=>intro n hn;refine a9 (s1 hn) λn q1_ hk=>?_;subst q1_;exact B4 bT7 (by rw[U1];exact A5 a b) λx hx=>by rw[ai3] at hx;cases hx
 | line a=>intro n hn;refine a9 (s1 hn) λn q1_ hk=>?_;subst q1_;exact B4 bz2 (by rw[Q2];exact A5 (hs _ a).1 (bO (hs _ a).2)) λx hx=>by rw[af2] at hx;cases hx
 | earlier a b=>intro n hn;refine a9 (s1 hn) λn q1_ hk=>?_;subst q1_;exact B4 br4 (by rw[O7];exact A5 a (bO b)) λx hx=>by rw[ab1] at hx;cases hx
 | paper a=>intro n hn;refine a9 (s1 hn) λn q1_ hk=>?_;subst q1_;exact B4 bo0 (by rw[S4];exact hw _ a) λx hx=>by rw[af3] at hx;cases hx
 | part _ a b ih=>intro n hn;refine a9 (s1 hn) λn q1_ hk=>?_;subst q1_;exact B4 aq8 (by rw[X1];exact A5 a b) λx hx=>R1 (P:=λx=>Internal.ok z n x=true) (I6 _) (ih hk) hx
 | table _ a b ih=>intro n hn;refine a9 (s1 hn) λn q1_ hk=>?_;subst q1_;exact B4 bs6 (by rw[P9];exact A5 a (bO b)) λx hx=>R1 (P:=λx=>Internal.ok z n x=true) (I9 _) (ih hk) hx
 | twol a _ _ i1 i2=>intro n hn;refine a9 (s1 hn) λn q1_ hk=>?_;subst q1_;exact B4 (aA1 a) (aL7 a) λx hx=>F4 (P:=λx=>Internal.ok z n x=true) (O2 a) (i1 hk) (i2 (al (aU _ _) hk)) hx
 | twor a _ _ i1 i2=>intro n hn;refine a9 (s1 hn) λn q1_ hk=>?_;subst q1_;exact B4 (aA1 a) (aL7 a) λx hx=>F4 (P:=λx=>Internal.ok z n x=true) (O2 a) (i1 (al (aU _ _) hk)) (i2 hk) hx
 | wherl _ _ _ i1 i2 i3=>intro n hn;refine a9 (s1 hn) λn q1_ hk=>?_;subst q1_;exact B4 ao7 (al1 _ _) λx hx=>X5 (P:=λx=>Internal.ok z n x=true) (C2 _) (i1 hk) (i2 (al (aU _ _) hk)) (i3 (al (aU _ _) hk)) hx
 | wherr _ _ _ i1 i2 i3=>intro n hn;refine a9 (s1 hn) λn q1_ hk=>?_;subst q1_;exact B4 ao7 (al1 _ _) λx hx=>X5 (P:=λx=>Internal.ok z n x=true) (C2 _) (i1 (al (aU _ _) hk)) (i2 hk) (i3 (al (aU _ _) hk)) hx
 | chol a b _ _ i1 i2=>intro n hn;refine a9 (s1 hn) λn q1_ hk=>?_;subst q1_;exact B4 aK6 (by rw[K5];exact A5 a (bO b)) λx hx=>F4 (P:=λx=>Internal.ok z n x=true) (B9 _) (i1 hk) (i2 (al (aU _ _) hk)) hx
 | chor a b _ _ i1 i2=>intro n hn;refine a9 (s1 hn) λn q1_ hk=>?_;subst q1_;exact B4 aK6 (by rw[K5];exact A5 a (bO b)) λx hx=>F4 (P:=λx=>Internal.ok z n x=true) (B9 _) (i1 (al (aU _ _) hk)) (i2 hk) hx
set_option tactic.hygienic true in
theorem B2{n:Nat}{w:Str}{args:List V}{u:Str}{y:V}(h:y∈f8 n (.tup (.str w::args)) u):(w=u/\y=arg args 0)∨∃ m,n=m+1/\∃ x∈i4 w args,y∈f8 m x u:=by
 cases n with
 | zero=>cases h
 | succ n=>
  simp only[E9,au,ch,ai] at h
  rcases h with h | ⟨_,⟨r,hr,rfl⟩,h⟩
  ·split at h
   ·rename_i e;exact .inl ⟨beq_iff_eq.mp e,ah.mp h⟩
   ·cases h
  ·exact .inr ⟨n,rfl,r,hr,h⟩
theorem GR.line_see{z:Lim}{see:Int->Prop}{wd:Str->Prop}{d:Nat}{r:V}(h:GR z see wd d r):∀ {n:Nat},∀ y∈f8 n r (Str.ofString "line"),∃ i,y=.int i/\see i:=by
 have two:∀ {w:Str},w∈[("add" : Str),"take","least","most"]->w≠Str.ofString "line":=fun{w} a e=>by subst e;revert a;decide +kernel
 induction h with
 | num a b=>intro n y hy;rcases B2 hy with ⟨e,-⟩ | ⟨m,-,x,hx,-⟩;exact absurd e (by decide +kernel);rw[ai3] at hx;cases hx
 | line a=>intro n y hy;rcases B2 hy with ⟨-,e⟩ | ⟨m,-,x,hx,-⟩;exact⟨_,e,a⟩;rw[af2] at hx;cases hx
 | earlier a b=>intro n y hy;rcases B2 hy with ⟨e,-⟩ | ⟨m,-,x,hx,-⟩;exact absurd e (by decide +kernel);rw[ab1] at hx;cases hx
 | paper a=>intro n y hy;rcases B2 hy with ⟨e,-⟩ | ⟨m,-,x,hx,-⟩;exact absurd e (by decide +kernel);rw[af3] at hx;cases hx
 | part _ a b ih=>intro n y hy;rcases B2 hy with ⟨e,-⟩ | ⟨m,-,x,hx,q⟩;exact absurd e (by decide +kernel);exact R1 (P:=λx=>y∈f8 m x _->_) (I6 _) (ih y) hx q
 | table _ a b ih=>intro n y hy;rcases B2 hy with ⟨e,-⟩ | ⟨m,-,x,hx,q⟩;exact absurd e (by decide +kernel);exact R1 (P:=λx=>y∈f8 m x _->_) (I9 _) (ih y) hx q
 | twol a _ _ i1 i2=>intro n y hy;rcases B2 hy with ⟨e,-⟩ | ⟨m,-,x,hx,q⟩;exact absurd e (two a);exact F4 (P:=λx=>y∈f8 m x _->_) (O2 a) (i1 y) (i2 y) hx q
 | twor a _ _ i1 i2=>intro n y hy;rcases B2 hy with ⟨e,-⟩ | ⟨m,-,x,hx,q⟩;exact absurd e (two a);exact F4 (P:=λx=>y∈f8 m x _->_) (O2 a) (i1 y) (i2 y) hx q
 | wherl _ _ _ i1 i2 i3=>intro n y hy;rcases B2 hy with ⟨e,-⟩ | ⟨m,-,x,hx,q⟩;exact absurd e (by decide +kernel);exact X5 (P:=λx=>y∈f8 m x _->_) (C2 _) (i1 y) (i2 y) (i3 y) hx q
 | wherr _ _ _ i1 i2 i3=>intro n y hy;rcases B2 hy with ⟨e,-⟩ | ⟨m,-,x,hx,q⟩;exact absurd e (by decide +kernel);exact X5 (P:=λx=>y∈f8 m x _->_) (C2 _) (i1 y) (i2 y) (i3 y) hx q
 | chol a b _ _ i1 i2=>intro n y hy;rcases B2 hy with ⟨e,-⟩ | ⟨m,-,x,hx,q⟩;exact absurd e (by decide +kernel);exact F4 (P:=λx=>y∈f8 m x _->_) (B9 _) (i1 y) (i2 y) hx q
 | chor a b _ _ i1 i2=>intro n y hy;rcases B2 hy with ⟨e,-⟩ | ⟨m,-,x,hx,q⟩;exact absurd e (by decide +kernel);exact F4 (P:=λx=>y∈f8 m x _->_) (B9 _) (i1 y) (i2 y) hx q
structure FG(rules tabs:List V)(C owed:Int)(rk:Int->Nat):Prop where
 gr:∀ (i:Nat) r,rules[i]?=some r->GR ⟨rules.length,tabs.length,C⟩ (λj=>(0<=j/\j<rules.length)/\rk j<rk i) (λx=>m5 x=true) 8 r
 l1:1<=rules.length
 l40:rules.length<=40
 t5:tabs.length<=5
 tab:∀ t∈tabs,u4 t=true/\∀ Y,Cld Y t
 c0:0<=C
 c8:C<=8
 o0:0<=owed
 o1:owed<rules.length
theorem FG.form{rules tabs:List V}{C owed:Int}{rk:Int->Nat}(h:FG rules tabs C owed rk):FormOK rules tabs C owed:=by
 refine⟨λr hr=>?_,h.l1,h.l40,h.t5,h.tab,h.c0,h.c8,h.o0,h.o1,λnm hn=>⟨rk,?_⟩⟩
 ·refine c6 (ca.mp hr) λi hi=>?_
  have hg:=h.gr i r hi;have hk:=hg.ok (λj hj=>hj.1) (λx hx=>hx) (aI 8)
  exact⟨hk,λu=>hg.few.lt u hk,λY=>hg.cld λx hx=>hx⟩
 ·have key:∀ (i:Nat),∀ j∈nm.getD i [],(0<=j/\j<(rules.length:Int))/\rk j<rk i:=λi j hj=>by
   by_cases hi:i<rules.length
   ·have hm:=hn.iff i _ _ (C0 (x:=[]) (hn.len▸hi)) (C0 (x:=.none) hi)
    refine a9 ((h.gr i _ (C0 (x:=.none) hi)).line_see _ ((hm _).mp (ai.mpr ⟨j,hj,rfl⟩))) λk e hk=>?_
    rw[V.int.inj e];exact hk
   ·rw[aw,bK (by rw[hn.len];exact bg hi)] at hj;cases hj
  exact⟨λi j hj=>by rw[hn.len];exact(key i j hj).1,λi j hj=>(key i j hj).2⟩
theorem u1{a b:Addr}(h:a≠b):a∉[b]:=λq=>h (ah.mp q)
noncomputable def d9(A:List Addr)(Y Y':Hp):Prop:=∀ c o,c∉A->Y c=some o->Y' c=some o
theorem d9.refl{A:List Addr}{Y:Hp}:d9 A Y Y:=λz_ z_ z_ e=>e
theorem d9.trans{A:List Addr}{Y zs Y2:Hp}(h:d9 A Y zs)(k:d9 A zs Y2):d9 A Y Y2:=λc o h1 e=>k c o h1 (h c o h1 e)
theorem d9.upd{A:List Addr}{Y:Hp}{a:Addr}{x:AObj}(h:a∈A):d9 A Y (Internal.upd Y a x):=λc o h1 e=>by rw[d8 Y x (fun(q:c=a)=>h1 (by rw[q];exact h))];exact e
theorem d9.new{A:List Addr}{Y:Hp}{a:Addr}{x:AObj}(h:Y a=none):d9 A Y (Internal.upd Y a x):=λc o h1 e=>Sub.upd h _ _ e
theorem d9.sub{A:List Addr}{Y zs:Hp}(h:d9 A Y zs)(hA:∀ a∈A,Y a=none):Sub Y zs:=λc o e=>h c o (λq=>by rw[hA c q] at e;cases e) e
section
variable{g:G}{d:Nat}{Y:Hp}{Q:V->Hp->Prop}{X:Str->Hp->Prop}
theorem be2(N:Nm g){st sl wl:Addr}{z:Lim}{seen:List Int}{ws:List Str}(S:Src Y st sl wl z seen ws)(m:Nat){n e:Int}(hst:Y st=some (.lst [.int n]))(he:e=((m+1:Nat):Int))(hm:m<8)(h0:0<=n)(h1:n<2147483647)
  (h:∀ r n',GR z (·∈seen) (·∈ws) (m+1) r->0<=n'->n'<2147483647->Q r (upd Y st (.lst [.int n']))) :
  c7 g (d+12) true "_law_rule" [.ref st,.int e,.ref sl,.tup [.int z.L,.int z.T,.int z.C],.ref wl] Y Q X:=by
 have:=bd7 (X:=X) N S m (d:=0) (Q:=Q) he hm h0 h1 h;rw[P3 hst] at this;exact this.deep (by k_extra "n")
theorem bL8(N:Nm g){st:Addr}{n:Int}{many:Nat}(hst:Y st=some (.lst [.int n]))(h0:0<=n)(h1:n<2147483647)(hz:many<=100)(h:∀ b O n',b≠st->Y b=none->Prm many O->0<=n'->n'<2147483647->Q (.ref b) (upd (upd Y st (.lst [.int n'])) b (.lst (O.map .int)))) :
  c7 g (d+2) true "_law_order" [.ref st,.int many] Y Q X:=by
 have:=bl8 (X:=X) (d:=d) N (st:=st) h0 h1 hz h;rw[P3 hst] at this;exact this
theorem ck0(N:Nm g){st:Addr}{n:Int}(hst:Y st=some (.lst [.int n]))(h0:0<=n)(h1:n<2147483647)(h:∀ t n',u4 t=true->(∀ Y,Cld Y t)->0<=n'->n'<2147483647->Q t (upd Y st (.lst [.int n']))) :
  c7 g (d+3) true "_law_table" [.ref st] Y Q X:=by
 have:=ba7 (X:=X) (d:=d) N (st:=st) h0 h1 h;rw[P3 hst] at this;exact this
def FmJ(sa st la sl wl:Addr)(most:Int)(z:Lim)(m:Nat)(ws:List Str)(O:List Int)(Y:Hp)(rest:List V)(Z':Lo)(Y':Hp):Prop:=
 ∀ P_:Prop,(∀ (done todo:List Int) (n:Int) (R:List V) (o7 o8:Option V) (e1:O=done++todo) (e2:rest=todo.map .int) (hst:Y' st=some (.lst [.int n])) (h0:0<=n) (h1:n<2147483647) (hla:Y' la=some (.lst R)) (hR:R.length=m) (hsl:Y' sl=some (.lst (done.map .int)))
  (hG:∀ (i:Nat) r,(i:Int)∈done->R[i]?=some r->GR z (λj=>(0<=j/\j<m)/\O.idxOf j<O.idxOf (i:Int)) (λx=>m5 x=true) 8 r) (hS:d9 [st,la,sl] Y Y')
  (e:Z'=[some (.ref sa),some (.int most),some (.ref st),some (.tup [.int z.L,.int z.T,.int z.C]),some (.ref wl),some (.ref la),some (.ref sl),o7,o8,none]),P_)->P_
set_option tactic.hygienic true in
theorem aG7(N:Nm g){sa st la sl wl:Addr}{most n deep:Int}{z:Lim}{m:Nat}{ws:List Str}{seen:List Int}{R:List V}{x:Nat}{o9:Option V}{QQ:d6}{XX:j3}(hst:Y st=some (.lst [.int n]))(h0:0<=n)(h1:n<2147483647)(hla:Y la=some (.lst R))(hsl:Y sl=some (.lst (seen.map .int)))(hwl:Y wl=some (.lst (ws.map .str)))
  (n1:la≠st) (n2:sl≠st) (n3:la≠sl) (n4:wl≠st) (hd1:1<=deep) (hd8:deep<=8) (hzL:1<=z.L) (hzL':z.L<=100) (hzT:0<=z.T) (hzT':z.T<=100) (hzC:0<=z.C) (hzC':z.C<=100) (hs:seen.length<=100) (hw1:1<=ws.length) (hw2:ws.length<=100) (hx:x<R.length) (hR:R.length<=100)
  (hq:∀ r n' Y',GR z (·∈seen) (·∈ws) 8 r->0<=n'->n'<2147483647->Y' st=some (.lst [.int n'])->Y' la=some (.lst (R.set x r))->Y' sl=some (.lst ((seen++[(x:Int)]).map .int))->d9 [st,la,sl] Y Y'->
   QQ .next [some (.ref sa),some (.int most),some (.ref st),some (.tup [.int z.L,.int z.T,.int z.C]),some (.ref wl),some (.ref la),some (.ref sl),some (.int x),some (.int deep),o9] Y') :
  wSs g (d+12) true aN9 [some (.ref sa),some (.int most),some (.ref st),some (.tup [.int z.L,.int z.T,.int z.C]),some (.ref wl),some (.ref la),some (.ref sl),some (.int x),some (.int deep),o9] Y QQ XX:=by
 have n1':=Ne.symm n1;have n2':=Ne.symm n2;have n3':=Ne.symm n3;have hsz:(seen.map V.int).length<=100:=by rw[aa];exact hs
 have hwz:(ws.map V.str).length=ws.length:=aa _;k_extra "w";rename_i q hq';have hqst:q≠st:=λe=>by rw[e,hst] at hq';cases hq'
 have hqla:la≠q:=j5 hla hq';have hqsl:sl≠q:=j5 hsl hq';obtain⟨m',hm'⟩:∃ m':Nat,deep=((m'+1:Nat):Int):=⟨(deep-1).toNat,by rw[Int.natCast_add,bu (Int.sub_nonneg_of_le (by lia))];exact(Int.sub_add_cancel deep 1).symm⟩
 refine be2 (d:=d) N (seen:=seen) (ws:=ws) ⟨d3 _ _ _,hqst,l5 hwl hq',n4,hsz,by rw[hwz];exact hw2,by rw[hwz];exact hw1,hzL,hzL',hzT,hzT',hzC,hzC'⟩ m' (l5 hst hq') hm' (by lia) h0 h1 λr n' hr hn hn'=>?_
 k_extra "w";refine hq r n' _ (hr.le (by lia)) hn hn' ?_ ?_ ?_ ?_
 ·rw[d8 _ _ n2',d8 _ _ n1',d3]
 ·rw[d8 _ _ n3,d3];rfl
 ·rw[d3,ak];rfl
 ·exact(((d9.new hq').trans (d9.upd (by k_extra "mem"))).trans (d9.upd (by k_extra "mem"))).trans (d9.upd (by k_extra "mem"))
theorem bC2{O done todo:List Int}{j x:Int}(e:O=done++x::todo)(hn:O.Nodup)(hj:j∈done):O.idxOf j<O.idxOf x:=by
 subst e;have hx:x∉done:=λq=>(aV.mp hn).2.2 x q x (.head _) rfl
 rw[List.idxOf_append,if_pos hj,List.idxOf_append,if_neg hx,List.idxOf_cons_self,dz];exact List.idxOf_lt_length_iff.mpr hj
open Internal renaming aH9->y21,av4->y22,E2->y23
theorem ck3:True:=by
 k_with "call"=>first | (refine y21 (by with_reducible assumption) (by with_reducible assumption) (by with_reducible assumption) (by k_extra "n") (by k_extra "n") ?_;intro _) | (refine y22 (by with_reducible assumption) (by k_extra "n") ?_;intro _ _ _) | (refine y23 (by with_reducible assumption) (by k_extra "heap") (by with_reducible assumption) (by with_reducible assumption) (by k_extra "n") (by k_extra "n") ?_;intro _ _ _ _ _ _)
 trivial
set_option tactic.hygienic true in
theorem bl6(N:Nm g){sa:Addr}{ns:List Int}{most:Int}(hs:Scr g sa ns)(hl:ns.length<=100)(hm:7<=most)(hm':most<=40)
  (h:∀ Y' p la ta wl rules tabs ws C owed rk,Y' p=some (.lst [.ref la,.ref ta,.int C,.int owed,.ref wl])->Y' la=some (.lst rules)->Y' ta=some (.lst tabs)->Y' wl=some (.lst (List.map V.str ws))->la≠p->la≠ta->la≠wl->Sub Y Y'->FG rules tabs C owed rk->(rules.length:Int)<=most->
   5<=ws.length->ws.length<=8->(∀ x∈ws,m5 x=true)->Q (.ref p) Y'):c7 g (d+13) true "_law_form" [.ref sa,.int most] Y Q X:=by
 refine aT6 N ?_;k_extra "w";rename_i x0 hx0 hx1 st hst _ _ _ _;refine cj4 N hm hm' λm t c hm1 hm2 ht1 ht2 hc1 hc2=>?_
 obtain⟨m,rfl⟩:=aT (show 0<=m by lia)
 refine c6 (aT ht1) λt q1_=>?_;subst q1_
 k_extra "w";refine bU3 N hx0 hx1 λwl ws n hne hwl h5 h8 hw hn hn'=>?_
 k_extra "w";rename_i tmp htmp la hla sl hsl;have er:(List.replicate (m:Int).toNat [V.tup [.str (Str.ofString "number"),.int 0]]).flatten=List.replicate m (V.tup [.str (Str.ofString "number"),.int 0]):=cK;rw[er] at hsl ⊢;refine c5 (j7 hla) λa1 a2=>?_
 refine c5 (j7 a2) λa3 a4=>?_
 refine c5 (j7 a4) λa5 a6=>?_
 refine c5 (j7 hsl) λb1 b2=>?_
 refine c5 (j7 b2) λb3 b4=>?_
 refine c5 (j7 b4) λb5 b6=>?_
 refine c5 (j7 b6) λb7 b8=>?_
 refine c5 (j7 htmp) λc1 c2=>?_
 refine c5 (j7 c2) λc3 c4=>?_
 obtain⟨τ,hτ⟩:∃ τ,τ=upd (upd (upd (upd (upd Y st (.lst [.int n])) wl (.lst (ws.map .str))) tmp (.lst [V.tup [.str (Str.ofString "number"),.int 0]])) la (.lst (List.replicate m (V.tup [.str (Str.ofString "number"),.int 0])))) sl (.lst []):=⟨_,rfl⟩;have t1:τ st=some (.lst [.int n]):=by rw[hτ,d8 _ _ (Ne.symm b7),d8 _ _ (Ne.symm a5),d8 _ _ (Ne.symm c3),d8 _ _ (Ne.symm hne),d3]
 have t2:τ wl=some (.lst (ws.map .str)):=by rw[hτ,d8 _ _ (Ne.symm b5),d8 _ _ (Ne.symm a3),d8 _ _ (Ne.symm c1),d3]
 have t3:τ la=some (.lst (List.replicate m (V.tup [.str (Str.ofString "number"),.int 0]))):=by rw[hτ,d8 _ _ (Ne.symm b1),d3]
 have t4:τ sl=some (.lst []):=by rw[hτ,d3]
 have t5:Sub Y τ:=by
  rw[hτ];exact((((Sub.upd hst).trans (Sub.upd (by rw[d8 _ _ hne];exact hwl))).trans (Sub.upd (by rw[d8 _ _ c1,d8 _ _ c3];exact c4))).trans (Sub.upd (by rw[d8 _ _ a1,d8 _ _ a3,d8 _ _ a5];exact a6))).trans (Sub.upd (by rw[d8 _ _ b1,d8 _ _ b3,d8 _ _ b5,d8 _ _ b7];exact b8))
 rw[<- hτ];clear hτ hsl hla htmp;refine bL8 (many:=m) N t1 hn hn' (by lia) λb O n2 hbst hb hO hn2 hn2'=>?_
 have hbwl:=j5 t2 hb;have hbla:=j5 t3 hb;have hbsl:=j5 t4 hb;have hwlA:wl∉[st,la,sl]:=by simp[hne,Ne.symm a3,Ne.symm b5]
 have hOl:=hO.len;refine LoopR.tmp (by rw[d8 _ _ hbst];exact hb) (Loop.g (FmJ sa st la sl wl most ⟨m,t,c⟩ m ws O τ) (λ_ k_=>k_ [] O n2 _ none none rfl rfl (d3 _ _ _) hn2 hn2' (by rw[d8 _ _ a5];exact t3) bY (by rw[d8 _ _ b7];exact t4) (λi r hi=>(by cases hi)) (d9.upd (by k_extra "mem")) rfl) (λR J hR hJ=>?_) ?_)
 ·rintro v rest _ Y' hh_;refine hh_ _ ?_;clear hh_;rintro done todo n R o7 o8 e1 e2 hst' h0 h1 hla' hR hsl' hG hS rfl
  refine⟨trivial,?_⟩;cases todo with
  | nil=>cases e2
  | cons x todo=>
   refine c5 (List.cons.inj e2) λe3 q1_=>?_;subst q1_
   subst e3;obtain⟨x0',x1'⟩:=hO.rng x (by rw[e1];simp)
   refine c6 (aT x0') λx q1_=>?_;subst q1_
   have hdl:done.length<=100:=by have:=congrArg List.length e1;rw[ar,hO.len] at this;lia
   have hnx:(x:Int)∉done:=λq=>(aV.mp (e1▸hO.nd)).2.2 _ q _ (.head _) rfl
   have fin:∀ r n' Y'' o7 o8,d9 [st,la,sl] Y' Y''->GR ⟨m,t,c⟩ (·∈done) (·∈ws) 8 r->0<=n'->n'<2147483647->Y'' st=some (.lst [.int n'])->Y'' la=some (.lst (R.set x r))->Y'' sl=some (.lst ((done++[(x:Int)]).map .int))->
     FmJ sa st la sl wl most ⟨m,t,c⟩ m ws O τ (todo.map .int) [some (.ref sa),some (.int most),some (.ref st),some (.tup [.int m,.int t,.int c]),some (.ref wl),some (.ref la),some (.ref sl),o7,o8,none] Y'':=λr n' Y'' o7 o8 q1 q2 q3 q4 q5 q6 q7=>by
    refine(λ_ k_=>k_ (done++[(x:Int)]) todo n' (R.set x r) o7 o8 (by rw[e1,aF];rfl) rfl q5 q3 q4 q6 (by rw[bt];exact hR) q7 (λi r' hi hr'=>?_) (hS.trans q1) rfl)
    by_cases hix:x=i
    ·subst hix
     rw[dU (by lia)] at hr'
     rw[<- Option.some.inj hr'];exact q2.mono (λj hj=>⟨hO.rng j (by rw[e1];exact au.mpr (.inl hj)),bC2 e1 hO.nd hj⟩) λy hy=>hw y hy
    ·rw[eE hix] at hr'
     rcases au.mp hi with q | q
     ·exact hG i r' q hr'
     ·exact absurd (Int.ofNat.inj (ah.mp q)).symm hix
   have hwl':=hS wl _ hwlA t2;k_extra "w"
   ·exact Stop.mk (aG7 (z:=⟨m,t,c⟩) (d:=d) (m:=m) N (d3 _ _ _) (by with_reducible assumption) (by with_reducible assumption) (by k_extra "heap") (by k_extra "heap") (by k_extra "heap") a5 b7 (Ne.symm b1) hne (by lia) (by lia) (by show 1<=(m:Int);lia) (by show(m:Int)<=100;lia) (by show 0<=(t:Int);lia) (by show(t:Int)<=100;lia) hc1 (by show c<=100;lia) hdl (by lia) (by lia) (by lia) (by lia)
     λr n' Y'' q1 q2 q3 q4 q5 q6 q7=>hJ (fin r n' Y'' _ _ ((((d9.upd (by k_extra "mem")).trans (d9.upd (by k_extra "mem"))).trans (d9.upd (by k_extra "mem"))).trans q7) q1 q2 q3 q4 q5 q6))
   ·exact Stop.mk (aG7 (z:=⟨m,t,c⟩) (d:=d) (m:=m) N (d3 _ _ _) (by with_reducible assumption) (by with_reducible assumption) (by k_extra "heap") (by k_extra "heap") (by k_extra "heap") a5 b7 (Ne.symm b1) hne (by lia) (by lia) (by show 1<=(m:Int);lia) (by show(m:Int)<=100;lia) (by show 0<=(t:Int);lia) (by show(t:Int)<=100;lia) hc1 (by show c<=100;lia) hdl (by lia) (by lia) (by lia) (by lia)
     λr n' Y'' q1 q2 q3 q4 q5 q6 q7=>hJ (fin r n' Y'' _ _ (((d9.upd (by k_extra "mem")).trans (d9.upd (by k_extra "mem"))).trans q7) q1 q2 q3 q4 q5 q6))
 ·rintro _ Y' hh_;refine hh_ _ ?_;clear hh_;rintro done todo n R o7 o8 e1 e2 hst' h0 h1 hla' hR hsl' hG hS rfl
  refine⟨trivial,?_⟩;obtain rfl:todo=[]:=by cases todo with | nil=>rfl | cons _ _=>cases e2
  rw[aL] at e1;subst e1;have hwl':=hS wl _ hwlA t2;refine Stop.mk ?_;have hlaA:la∉[st]:=by simp[a5]
  have hwlA':wl∉[st]:=by simp[hne]
  show wSs g (d+12) true av8 [some (.ref sa),some (.int most),some (.ref st),some (.tup [.int m,.int t,.int c]),some (.ref wl),some (.ref la),some (.ref sl),o7,o8,none] Y' _ _;k_extra "w";refine O1 (a:=0) (b:=(t:Int)) (λi acc Y''=>∃ n,0<=n/\n<2147483647/\Y'' st=some (.lst [.int n])/\d9 [st] Y' Y''/\acc.length=i/\∀ x∈acc,u4 x=true/\∀ Y,Cld Y x) (by lia) ⟨n,h0,h1,hst',d9.refl,rfl,λx hx=>(by cases hx)⟩ (λJ hJ=>?_) ?_
  ·rintro i acc Y'' hi hh_;refine cg5 hh_ λn g0 g1 g2 g3 g4 g5=>?_
   k_extra "w";refine ck0 (d:=d+9) N g2 g0 g1 λt' n' q1 q2 q3 q4=>?_
   refine CJ.next hi (hJ ⟨n',q3,q4,d3 _ _ _,g3.trans (d9.upd (by k_extra "mem")),by rw[ar,g4];rfl,λx hx=>?_⟩)
   rcases au.mp hx with q | q
   ·exact g5 x q
   ·rw[ah.mp q];exact⟨q1,q2⟩
  ·rintro acc Y'' ⟨n,g0,g1,g2,g3,g4,g5⟩ ta hta
   have g4:acc.length=t:=by rw[g4];lia
   have hla2:=g3 la _ hlaA hla';have hwl2:=g3 wl _ hwlA' hwl';have hlat:=j5 hla2 hta;have hwlt:=j5 hwl2 hta;have hstt:=j5 g2 hta;k_extra "w";rename_i owed n3 o0 o1 _ _ p hp;have hla3:upd (upd Y'' ta (.lst acc)) st (.lst [.int n3]) la=some (.lst R):=by k_extra "heap"
   refine d4 (h _ p la ta wl R acc ws c owed (λj=>O.idxOf j) (d3 _ _ _) (l5 (by k_extra "heap") hp) (l5 (by k_extra "heap") hp) (l5 (by k_extra "heap") hp) (j5 hla3 hp) hlat (Ne.symm (λe=>a3 e.symm)) ?_ ?_ (by rw[hR];exact hm2) h5 h8 hw)
   ·have k1:d9 [st,la,sl] Y'' (upd (upd Y'' ta (.lst acc)) st (.lst [.int n3])):=(d9.new hta).trans (d9.upd (by k_extra "mem"))
    have k2:d9 [st,la,sl] Y' Y'':=λx o hx e=>g3 x o (λq=>hx (by rw[ah.mp q];simp)) e
    have k3:d9 [st,la,sl] Y τ:=λx o _ e=>t5 x o e
    refine Sub.trans (d9.sub (((k3.trans hS).trans k2).trans k1) λx hx=>?_) (Sub.upd hp)
    simp only[am,aC,or_false] at hx
    rcases hx with rfl | rfl | rfl
    ·exact hst
    ·exact a6
    ·exact b8
   ·refine⟨λi r hi=>?_,by lia,by lia,by lia,g5,hc1,hc2,o0,by rw[hR];exact o1⟩
    have hlt:i<R.length:=(aj.mp hi).1;have hin:(i:Int)∈O:=ba λq=>by
     have:=J0 (S:=(i:Int)::O) (n:=m) (bJ.mpr ⟨q,hO.nd⟩) λx hx=>by
      rcases am.mp hx with rfl | hx
      ·exact⟨aJ i,by lia⟩
      ·exact hO.rng x hx
     rw[az,hO.len] at this;lia
    have:=hG i r hin hi;rw[hR,g4];exact this
end
theorem V8{v:V}(h:u4 v=true):∃ l,v=.tup l/\∀ x∈l,t8 x=true:=by
 cases v with
 | tup l=>
  have h:((decide (1<=l.length)&&decide (l.length<=20))&&(l.all t8&&(List.range (l.length-1)).all (D5 l)))=true:=h;exact⟨l,rfl,aB.mp ((aQ _ _).mp ((aQ _ _).mp h).2).1⟩
 | _=>exact ff h
def AtJ(l:List V)(n:Int)(k:Nat)(Y:Hp)(rest:List V)(Z':Lo)(Y':Hp):Prop:=
 ∀ P_:Prop,(∀ (f:Int) (os:Lo) (e:Y=Y') (hr:∀ x∈rest,t8 x=true) (hf:rest.foldl (O5 n) f=l.foldl (O5 n) 0) (hl:os.length=k) (e2:Z'=some (.tup l)::some (.int n)::some (.int f)::os),P_)->P_
theorem bo4{l:Lo}(h:l.length=3):∃ a b c,l=[a,b,c]:=by
 cases l with
 | nil=>cases h
 | cons a l=>cases l with
  | nil=>cases h
  | cons b l=>cases l with
   | nil=>cases h
   | cons c l=>cases l with
    | nil=>exact⟨a,b,c,rfl⟩
    | cons _ _=>cases h
theorem bg1{l:Lo}(h:l.length=1):∃ a,l=[a]:=ei.mp h
theorem aw3{n f a b c:Int}(h:a<=n):O5 n f (.tup [.int a,.int b,.int c])=b+(n-a)*c / 100:=if_pos h
theorem aI3{n f a b c:Int}(h:¬ a<=n):O5 n f (.tup [.int a,.int b,.int c])=f:=if_neg h
section
variable{g:G}{d:Nat}{Y:Hp}{Q:V->Hp->Prop}{X:Str->Hp->Prop}
set_option tactic.hygienic true in
theorem bc2(N:Nm g){t:V}{n:Int}(ht:u4 t=true)(h:Q (.int (atN t n)) Y):c7 g (d+1) true "at_number" [t,.int n] Y Q X:=by
 refine bT1 N ?_;refine a9 (V8 ht) λl q1_ hr=>?_;subst q1_
 k_extra "w";refine Loop.g (AtJ l n 3 Y) (λ_ k_=>k_ 0 [none,none,none] rfl hr rfl rfl rfl) (λR J hR hJ=>?_) ?_
 ·rintro v rest _ _ hh_;refine hh_ _ ?_;clear hh_;rintro f os rfl hr hf hl rfl
  refine⟨trivial,?_⟩;refine N2 (bo4 hl) λo1 o2 o3 q1_=>?_;subst q1_
  obtain⟨a,b,c,rfl,c0,c1⟩:=O8 (hr v (by k_extra "mem"))
  have hr':∀ x∈rest,t8 x=true:=λx hx=>hr x (.tail _ hx)
  k_extra "w"
  ·rename_i q
   exact hJ (λ_ k_=>k_ _ _ rfl hr' (by rw[bk,aw3 q] at hf;exact hf) rfl rfl)
  ·rename_i q
   exact hJ (λ_ k_=>k_ _ _ rfl hr' (by rw[bk,aI3 q] at hf;exact hf) rfl rfl)
 ·rintro _ _ hh_;refine hh_ _ ?_;clear hh_;rintro f os rfl hr hf hl rfl
  refine⟨trivial,?_⟩;k_extra "w";refine d4 ?_;have e:f=atN (.tup l) n:=hf;rw[e];exact h
set_option tactic.hygienic true in
theorem aY7(N:Nm g){t:V}{n:Int}(ht:u4 t=true)(h:Q (.int (atN t n)) Y):c7 g (d+1) true "_law_at" [t,.int n] Y Q X:=by
 refine bd0 N ?_;refine a9 (V8 ht) λl q1_ hr=>?_;subst q1_
 k_extra "w";refine Loop.g (AtJ l n 1 Y) (λ_ k_=>k_ 0 [none] rfl hr rfl rfl rfl) (λR J hR hJ=>?_) ?_
 ·rintro v rest _ _ hh_;refine hh_ _ ?_;clear hh_;rintro f os rfl hr hf hl rfl
  refine⟨trivial,?_⟩;refine c6 (bg1 hl) λo1 q1_=>?_;subst q1_
  obtain⟨a,b,c,rfl,c0,c1⟩:=O8 (hr v (by k_extra "mem"))
  have hr':∀ x∈rest,t8 x=true:=λx hx=>hr x (.tail _ hx)
  k_extra "w"
  ·rename_i q
   exact hJ (λ_ k_=>k_ _ _ rfl hr' (by rw[bk,aw3 q] at hf;exact hf) rfl rfl)
  ·rename_i q
   exact hJ (λ_ k_=>k_ _ _ rfl hr' (by rw[bk,aI3 q] at hf;exact hf) rfl rfl)
 ·rintro _ _ hh_;refine hh_ _ ?_;clear hh_;rintro f os rfl hr hf hl rfl
  refine⟨trivial,?_⟩;k_extra "w";refine d4 ?_;have e:f=atN (.tup l) n:=hf;rw[e];exact h
theorem am4{a b:Int}:J9 "add" a b=a+b:=if_pos (by decide +kernel)
theorem aq0{a b:Int}:J9 "take" a b=a-b:=(if_neg (by decide +kernel)).trans (if_pos (by decide +kernel))
theorem ax8{a b:Int}:J9 "least" a b=min a b:=(if_neg (by decide +kernel)).trans ((if_neg (by decide +kernel)).trans (if_pos (by decide +kernel)))
theorem aB9{a b:Int}:J9 "most" a b=max a b:=(if_neg (by decide +kernel)).trans ((if_neg (by decide +kernel)).trans (if_neg (by decide +kernel)))
theorem bm4(N:Nm g){w:Str}{a b:Int}(hw:W2 w)(h:Q (.int (J9 w a b)) Y):c7 g (d+1) true "of_two" [.str w,.int a,.int b] Y Q X:=by
 refine bW2 N ?_;cases hw
 ·k_extra "w"
  exact d4 (by rw[am4] at h;exact h)
 ·k_extra "w"
  exact d4 (by rw[aq0] at h;exact h)
 ·k_extra "w"
  exact d4 (by rw[ax8] at h;exact h)
 ·k_extra "w"
  exact d4 (by rw[aB9] at h;exact h)
end
inductive TkAt(Y:Hp)(T:List Bool):V->Prop
 | lst (a:Addr) (h:Y a=some (.lst (T.map .bool))):TkAt Y T (.ref a)
 | tup:TkAt Y T (.tup (T.map .bool))
theorem TkAt.sub{Y Y':Hp}{T:List Bool}{v:V}(h:TkAt Y T v)(k:Sub Y Y'):TkAt Y' T v:=by
 cases h with
 | lst a h=>exact .lst a (k _ _ h)
 | tup=>exact .tup
structure YrAt(Y:Hp)(z:Lim)(y:Yr)(pa ea:Addr)(tk:V):Prop where
 hp:Y pa=some (.ds (dS y.P))
 he:Y ea=some (.lst (y.E.map .int))
 ht:TkAt Y y.T tk
 ez:y.E=[]∨(y.E.length:Int)=z.L
 e1:y.E.length<=100
 tz:(y.T.length:Int)=z.C
 bz:(y.tabs.length:Int)=z.T
 t1:y.T.length<=100
 b1:y.tabs.length<=100
 tab:∀ t∈y.tabs,u4 t=true
theorem YrAt.sub{Y Y':Hp}{z:Lim}{y:Yr}{pa ea:Addr}{tk:V}(h:YrAt Y z y pa ea tk)(k:Sub Y Y'):YrAt Y' z y pa ea tk:=
 ⟨k _ _ h.hp,k _ _ h.he,h.ht.sub k,h.ez,h.e1,h.tz,h.bz,h.t1,h.b1,h.tab⟩
theorem av6{T:List Bool}{k:Nat}{x:V}(h:(T.map V.bool)[k]?=some x):x=.bool (T.getD k false):=by
 rw[aq] at h;refine a9 (aA.mp h) λb hb q1_=>?_;subst q1_
 rw[aw,hb];rfl
theorem ao1{T:List Int}{k:Nat}{x:V}(h:(T.map V.int)[k]?=some x):x=.int (T.getD k 0):=by
 rw[aq] at h;refine a9 (aA.mp h) λb hb q1_=>?_;subst q1_
 rw[aw,hb];rfl
theorem T5{T:List V}{k:Nat}{x:V}(h:T[k]?=some x):x=T.getD k .none:=by
 rw[aw,h];rfl
theorem aB4{g:G}{Y:Hp}{T:List Bool}{tk:V}{i:Int}{Q:VP}(ht:TkAt Y T tk)(h0:0<=i)(h1:i<T.length)(hz:T.length<=100)(h:Q (.bool (T.getD i.toNat false)) Y):aj9 g tk (.int i) Y Q:=by
 have hl:(T.map V.bool).length=T.length:=aa _;cases ht with
 | lst a e=>exact ItR.l (LookR.mk _ e (Idx.mk h0 (by lia) (by lia) λx ex=>by rw[av6 ex];exact h))
 | tup=>exact Idx.mk h0 (by lia) (by lia) λx ex=>by rw[av6 ex];exact h
section
variable{g:G}{d:Nat}{Y:Hp}{Q:V->Hp->Prop}{X:Str->Hp->Prop}
noncomputable def am3(f:Int->Int)(L:List (Int×V))(n:Nat)(v:V):Prop:=Nms (λi=>j9 L i=some (.int (f i))) n v
theorem V5(N:Nm g){z:Lim}{y:Yr}{pa ea va:Addr}{tk:V}{tabs:V}{f:Int->Int}{L:List (Int×V)}{n:Nat}{w:Str}{x:V}(Yb:YrAt Y z y pa ea tk)(hv:Y va=some (.di L))(hk:ok z (n+1) (.tup [.str w,x])=true)(hl:V6 w=true)(hL:am3 f L (n+1) (.tup [.str w,x]))(h:Q (.int (wv y f (n+1) (.tup [.str w,x]))) Y) :
  c7 g (d+1) true "leaf" [.tup [.str w,x],.tup [.ref pa,.ref ea,tk,tabs,.ref va]] Y Q X:=by
 refine bI6 N ?_;obtain⟨hp,he,ht,ez,e1,-⟩:=Yb;have el:(y.E.map V.int).length=y.E.length:=aa _;cases L7 hk with
 | num i=>
  k_extra "w";exact d4 (by rw[Z9] at h;exact h)
 | paper x=>
  k_extra "w";refine d4 ?_;rw[aH7];rw[Ya2] at h;exact h
 | line i h0 h1=>
  k_extra "w";refine DAt.mk _ hL.line ?_;exact d4 (by rw[V2] at h;exact h)
 | earlier i h0 h1=>
  rw[Z5] at h;rcases ez with ez | ez
  ·rw[ez] at h el he
   k_extra "w";exact d4 h
  ·k_extra "w"
   refine Idx.mk h0 (by lia) (by lia) λx ex=>?_
   rw[ao1 ex];exact d4 h
end
section
variable{g:G}{d:Nat}{X:Str->Hp->Prop}
set_option tactic.hygienic true in
theorem cd1(N:Nm g){Y:Hp}{z:Lim}{y:Yr}{pa ea va:Addr}{tk:V}{f:Int->Int}{L:List (Int×V)}(Yb:YrAt Y z y pa ea tk)(hv:Y va=some (.di L)):∀ (n:Nat) {v:V} {Q:V->Hp->Prop},ok z n v=true->am3 f L n v->Q (.int (wv y f n v)) Y->
  c7 g (d+n+2) true "worth" [v,.tup [.ref pa,.ref ea,tk,.tup y.tabs,.ref va]] Y Q X:=by
 intro n;induction n with
 | zero=>intro v Q hk;exact ff hk
 | succ n ih=>
  intro v Q hk hL h;refine bu1 N ?_;cases L7 hk with
  | num i=>
   k_extra "w";exact V5 N Yb hv hk (by decide +kernel) hL (d4 h)
  | paper x=>
   k_extra "w";exact V5 N Yb hv hk (by decide +kernel) hL (d4 h)
  | line i h0 h1=>
   k_extra "w";exact V5 N Yb hv hk (by decide +kernel) hL (d4 h)
  | earlier i h0 h1=>
   k_extra "w";exact V5 N Yb hv hk (by decide +kernel) hL (d4 h)
  | part r i hr h0 h1=>
   k_extra "w";refine ih hr hL.part ?_;k_extra "w";exact d4 (by rw[U4] at h;exact h)
  | table i r h0 h1 hr=>
   have hb:=Yb.bz;have hb1:=Yb.b1;k_extra "w";refine Idx.mk h0 (by lia) (by lia) λt ht=>?_
   refine ih hr hL.table ?_;refine bc2 N (Yb.tab t (aD ht)) ?_;rw[T5 ht];exact d4 (by rw[aa2] at h;exact h)
  | two w r t hw hr ht=>
   rw[X0 hw] at h;cases hw;all_goals
    k_extra "w";refine ih hr (hL.two1 (by constructor)) ?_
    refine ih ht (hL.two2 (by constructor)) ?_
    exact bm4 N (by constructor) (d4 h)
  | wher r t u hr ht hu=>
   rw[Y9] at h;k_extra "w";refine ih hr hL.wher1 ?_;k_extra "w"
   ·rename_i q
    rw[if_pos q] at h;exact ih ht hL.wher2 (d4 h)
   ·rename_i q
    rw[if_neg q] at h;exact ih hu hL.wher3 (d4 h)
  | choo i r t h0 h1 hr ht=>
   rw[W6] at h;have hc:=Yb.tz;k_extra "w";refine aB4 Yb.ht h0 (by lia) Yb.t1 ?_
   cases hb:y.T.getD i.toNat false with
   | true=>
    rw[hb,if_pos rfl] at h;k_extra "w";exact ih ht hL.choo2 (d4 h)
   | false=>
    rw[hb,if_neg ac] at h;k_extra "w";exact ih hr hL.choo1 (d4 h)
end
noncomputable def A1(p:V×V):V:=.tup [p.1,p.2]
noncomputable def gdP(p:V×V):Bool:=I0 p.1&&n9 p.2 (0-1000000000) 1000000000
noncomputable def papF:List (V×V)->List (Str×Int)->Option (List (Str×Int))
 | [],D=>some D
 | p::l,D=>bif gdP p then(bif (j9 (dS D) (toS p.1)).isSome then none else papF l (D++[(toS p.1,toI p.2)])) else none
theorem ad5(p:V×V)(l:List (V×V))(D:List (Str×Int)):papF (p::l) D=bif gdP p then(bif (j9 (dS D) (toS p.1)).isSome then none else papF l (D++[(toS p.1,toI p.2)])) else none:=rfl
theorem aj4{p:V×V}{l:List (V×V)}{D:List (Str×Int)}(h:gdP p=false):papF (p::l) D=none:=by rw[ad5,h];rfl
theorem aS4{p:V×V}{l:List (V×V)}{D:List (Str×Int)}(h:(j9 (dS D) (toS p.1)).isSome=true):papF (p::l) D=none:=by rw[ad5,h];cases gdP p<;>rfl
theorem ax4{p:V×V}{l:List (V×V)}{D:List (Str×Int)}(h:gdP p=true)(h2:(j9 (dS D) (toS p.1)).isSome=false):papF (p::l) D=papF l (D++[(toS p.1,toI p.2)]):=by rw[ad5,h,h2];rfl
theorem bA3{D:List (Str×Int)}{x:Str}{i:Int}(h:(j9 (dS D) x).isSome=false):B7 (dS D) x (.int i)=dS (D++[(x,i)]):=by
 unfold B7;rw[if_neg]
 ·unfold dS;rw[ak];rfl
 ·intro q
  have:(j9 (dS D) x).isSome=true:=by
   unfold j9;rw[Option.isSome_map,List.find?_isSome];refine a9 (dH.mp q) λp hp e=>?_
   exact⟨p,hp,e⟩
  rw[h] at this;cases this
def aP3(pa b:Addr)(ps0:List (V×V))(Y:Hp)(rest:List V)(Z':Lo)(Y':Hp):Prop:=
 ∀ P_:Prop,(∀ (ps:List (V×V)) (D:List (Str×Int)) (o:Option V) (e1:rest=ps.map A1) (e2:papF ps D=papF ps0 []) (hc:∀ p∈ps,Cld Y p.1/\Cld Y p.2) (hz:ps.length+D.length<=1000) (e3:Y'=upd Y b (.ds (dS D))) (e4:Z'=[some (.ref pa),some (.ref b),o]),P_)->P_
section
variable{g:G}{d:Nat}{Y:Hp}{Q:V->Hp->Prop}{X:Str->Hp->Prop}
open Internal renaming aq2->y24,V1->y25
theorem ck5:True:=by
 k_with "call"=>first | refine y24 (by with_reducible assumption) (by with_reducible assumption) ?_ | refine y25 (by with_reducible assumption) (Cld.ok (by with_reducible assumption)) ?_
 trivial
set_option tactic.hygienic true in
theorem ck1(N:Nm g){pa:Addr}{ps:List (V×V)}(hpa:Y pa=some (.lst (ps.map A1)))(hc:∀ p∈ps,Cld Y p.1/\Cld Y p.2)(hz:ps.length<=1000)(h1:∀ D,papF ps []=some D->∀ b,Y b=none->Q (.ref b) (upd Y b (.ds (dS D))))(h2:papF ps []=none->∀ Y',Sub Y Y'->X (Str.ofString "NoPaper") Y') :
  c7 g (d+3) true "papers_of" [.ref pa] Y Q X:=by
 refine bX7 N ?_;k_extra "w";rename_i b hb;refine LoopR.held _ (l5 hpa hb) (Loop.g (aP3 pa b ps Y) (λ_ k_=>k_ ps [] none rfl rfl hc hz rfl rfl) (λR J hR hJ=>?_) ?_)
 ·rintro v rest _ _ hh_;refine hh_ _ ?_;clear hh_;rintro qs D o e1 e2 hc hz rfl rfl
  refine⟨l5 hpa hb,?_⟩;cases qs with
  | nil=>cases e1
  | cons p qs=>
   refine c5 (List.cons.inj e1) λe3 q1_=>?_;subst q1_
   obtain⟨a,c⟩:=p;obtain rfl:v=.tup [a,c]:=e3;refine c5 (hc _ (.head _)) λka kc=>?_
   have ka':Cld (upd Y b (.ds (dS D))) a:=ka.sub (Sub.upd hb);have kc':Cld (upd Y b (.ds (dS D))) c:=kc.sub (Sub.upd hb);have hl:(dS D).length<=10000:=by unfold dS;rw[aa];rw[az] at hz;lia
   k_extra "w"
   ·rename_i q1 q2
    refine a9 (T9 q1) λx q1_ _=>?_;subst q1_
    refine a9 (t9 q2) λi q1_ _=>?_;subst q1_
    have hg:gdP (.str x,.int i)=true:=by unfold gdP;rw[q1,q2];rfl
    k_extra "w"
    ·rename_i q3
     exact h2 (e2▸aS4 (eq_true_of_ne_false (Ne.symm q3))) _ (Sub.upd hb)
    ·rename_i q3
     have q3:=q3.symm;refine hJ (λ_ k_=>k_ qs (D++[(x,i)]) _ rfl (by rw[<- e2,ax4 hg q3];rfl) (λp hp=>hc p (.tail _ hp)) (by rw[ar];rw[az] at hz;show _+(_+1)<=_;lia) (by rw[bA3 q3]) rfl)
   ·rename_i q1 q2
    exact h2 (e2▸aj4 (by unfold gdP;rw[q2,cE])) _ (Sub.upd hb)
   ·rename_i q1
    exact h2 (e2▸aj4 (by unfold gdP;rw[q1,bZ])) _ (Sub.upd hb)
 ·rintro _ _ hh_;refine hh_ _ ?_;clear hh_;rintro qs D o e1 e2 hc hz rfl rfl
  refine⟨l5 hpa hb,?_⟩;obtain rfl:qs=[]:=by cases qs with | nil=>rfl | cons _ _=>cases e1
  k_extra "w";exact d4 (h1 D e2.symm b hb)
set_option tactic.hygienic true in
theorem bu6(N:Nm g){a b c tk:V}{C:Int}{T:List Bool}(ht:TkAt Y T tk)(hz:T.length<=100)(h1:(T.length:Int)=C->Q .none Y)(h2:(T.length:Int)≠C->X (Str.ofString "NoChoice") Y) :
  c7 g (d+1) true "need_taken" [.tup [a,b,.int C,c],tk] Y Q X:=by
 refine cf1 N ?_;have hl:(T.map V.bool).length=T.length:=aa _;have hlz:(T.map V.bool).length<=10000:=by lia
 have key:∀ (K:Hp->Prop),K Y->(T.length:Int)=C->Loop (T.map V.bool) K [some (.tup [a,b,.int C,c]),some tk,none] Y (lpK (wSs g d true (.cons (.iff (.not (.isi (.v 2) .bool)) (.cons (.rais (Str.ofString "NoChoice") (.cons (.k (.str (Str.ofString "no truth"))) .nil)) .nil) .nil) .nil)) 2 (xK X)) (sq (wSs g d true .nil) (e8 Q) (xK X)):=λK hK e=>by
  refine Loop.g (λrest Z' Y'=>Y=Y'/\(∃ bs:List Bool,rest=bs.map .bool)/\∃ o,Z'=[some (.tup [a,b,.int C,c]),some tk,o]) ⟨rfl,⟨T,rfl⟩,none,rfl⟩ (λR J hR hJ=>?_) ?_
  ·rintro v rest _ _ ⟨rfl,⟨bs,e1⟩,o,rfl⟩
   refine⟨hK,?_⟩;cases bs with
   | nil=>cases e1
   | cons t bs=>
    refine c5 (List.cons.inj e1) λq1_ q2_=>?_;subst q1_;subst q2_
    k_extra "w";exact hJ ⟨rfl,⟨bs,rfl⟩,_,rfl⟩
  ·rintro _ _ hh_;obtain⟨rfl,-,o,rfl⟩:=hh_
   exact⟨hK,d4 (h1 e)⟩
 cases ht with
 | lst ta e=>
  k_extra "w"
  ·rename_i q
   exact h2 (by rw[hl] at q;exact q)
  ·rename_i q
   exact LoopR.held _ e (key (λY=>Y ta=some (.lst (T.map .bool))) e (by rw[hl] at q;exact q))
 | tup=>
  k_extra "w"
  ·rename_i q
   exact h2 (by rw[hl] at q;exact q)
  ·rename_i q
   exact key (λ_=>True) trivial (by rw[hl] at q;exact q)
end
theorem L3{l:List V}{k:Int}{K:V->Prop}(n:Nat)(x:V)(e:k=n)(hx:l[n]?=some x)(hn:n<=100)(h:K x):Idx l k K:=by
 subst e;exact⟨aJ n,cC.mpr (aj.mp hx).1,by lia,λy hy=>Option.some.inj (hx.symm.trans hy)▸h⟩
theorem X8{l:List V}{k:Int}{K:V->Prop}(n:Nat)(x:V)(e:k=n)(hx:l[n]?=some x)(h:K x):Pick l k K:=by
 subst e;exact⟨aJ n,cC.mpr (aj.mp hx).1,λy hy=>Option.some.inj (hx.symm.trans hy)▸h⟩
theorem Z0{k:Str}{v:V}{L:List (Str×V)}:j9 ((k,v)::L) k=some v:=by
 unfold j9;rw[cx,show decide ((k,v).1=k)=true from decide_eq_true rfl];rfl
theorem L8{k k':Str}{v:V}{L:List (Str×V)}(h:k'≠k):j9 ((k',v)::L) k=j9 L k:=by
 unfold j9;rw[cx,show decide ((k',v).1=k)=false from decide_eq_false h]
theorem cb1{f:Int->V}{lo hi:Option Int}{l:List Int}:slc lo hi (l.map f)=(slc lo hi l).map f:=by
 unfold slc;rw[aa,eK,List.map_drop]
theorem bV1{l:List Int}{i:Int}(h0:0<=i):(slc (some i) (some (i+1)) l).sum=l.getD i.toNat 0:=by
 have e1:clipAt l.length i=min i.toNat l.length:=I2 h0;have e2:clipAt l.length (i+1)=min (i.toNat+1) l.length:=by rw[I2 (Int.add_nonneg h0 (by decide)),Int.toNat_add h0 (by decide)];rfl
 show((l.drop (clipAt l.length i)).take (clipAt l.length (i+1)-clipAt l.length i)).sum=_;rw[e1,e2,aw];by_cases h:i.toNat<l.length
 ·rw[bB (cB h),bB (show i.toNat+1<=l.length from h),dP,ae h,bN h,List.take_succ_cons,List.take_zero,List.sum_cons,List.sum_nil,Int.add_zero];rfl
 ·rw[cJ (bg h),dy,List.take_nil,bK (bg h)];rfl
structure SgAt(Y:Hp)(z:Lim)(y:Yr)(Ls:List Int)(la pa ea:Addr)(tk:V):Prop where
 hl:Y la=some (.lst (Ls.map .int))
 hp:Y pa=some (.lst ((dS y.P).map D6))
 nd:((dS y.P).map (·.1)).Nodup
 pz:(dS y.P).length<=10000
 he:Y ea=some (.lst (y.E.map .int))
 ht:TkAt Y y.T tk
 lz:Ls.length<=100
 e1:y.E.length<=100
 tz:(y.T.length:Int)=z.C
 bz:(y.tabs.length:Int)=z.T
 t1:y.T.length<=100
 b1:y.tabs.length<=100
 tab:∀ t∈y.tabs,u4 t=true
section
variable{g:G}{d:Nat}{Y:Hp}{X:Str->Hp->Prop}
theorem aJ3{a:Addr}{l:List Int}{i:Int}{Q:VP}(ha:Y a=some (.lst (l.map .int)))(hz:l.length<=100)(h0:0<=i)(h:Ret (.int (l.getD i.toNat 0)) Y Q):Look Y a λl=>Req (l.length<=10000) (New Y λb=>z9 (λa=>SumL (upd Y b (.lst (slc (some i) (some (i+1)) l))) a λv Y=>Ret v Y Q) (.ref b)):=by
 refine Look.mk _ ha (Req.mk (by rw[aa];lia) (New.mk λb hb=>?_))
 refine SumL.mk (slc (some i) (some (i+1)) l) (by rw[cb1];exact d3 _ _ _) ?_
 rw[bV1 h0];obtain⟨k,h⟩:=h;exact⟨k.trans (Sub.upd hb),h⟩
set_option tactic.hygienic true in
theorem bE5(N:Nm g){z:Lim}{y:Yr}{Ls:List Int}{la pa ea:Addr}{tk:V}(S:SgAt Y z y Ls la pa ea tk):∀ (n:Nat) {v:V} {Q:V->Hp->Prop},ok z n v=true->Q (.int (wv y (λi=>Ls.getD i.toNat 0) n v)) Y->
  c7 g (d+n+2) true "_law_value" [v,.tup [.ref la,.ref pa,.ref ea,.tup y.tabs,tk]] Y Q X:=by
 intro n;induction n with
 | zero=>intro v Q hk;exact ff hk
 | succ n ih=>
  intro v Q hk h;refine aP2 N ?_;cases L7 hk with
  | num i=>
   k_extra "w";exact d4 (by rw[Z9] at h;exact h)
  | paper x=>
   rw[Ya2] at h;have hp:=S.hp;k_extra "w";refine DOf.mk (dS y.P) hp S.nd S.pz λb hb=>?_
   k_extra "w";rw[aH7];exact m9 (Sub.upd hb) h
  | line i h0 h1=>
   rw[V2] at h;k_extra "w";refine L3 0 _ (by decide +kernel) rfl (by decide) ?_
   exact aJ3 S.hl S.lz h0 (d4 h)
  | earlier i h0 h1=>
   rw[Z5] at h;k_extra "w";refine L3 2 _ (by decide +kernel) rfl (by decide) ?_
   exact aJ3 S.he S.e1 h0 (d4 h)
  | part r i hr h0 h1=>
   rw[U4] at h;k_extra "w";refine ih hr ?_;k_extra "w";exact d4 h
  | table i r h0 h1 hr=>
   rw[aa2] at h;have hb:=S.bz;have hb1:=S.b1;k_extra "w";refine Idx.mk h0 (by lia) (by lia) λt ht=>?_
   refine ih hr ?_;refine aY7 N (S.tab t (aD ht)) ?_;rw[T5 ht];exact d4 h
  | two w r t hw hr ht=>
   rw[X0 hw] at h;cases hw
   ·rw[am4] at h
    k_extra "w";refine ih hr ?_;k_extra "w";refine ih ht ?_;k_extra "w";rename_i b hb;exact(DAt.mk _ Z0 (m9 (Sub.upd hb) h))
   ·rw[aq0] at h
    k_extra "w";refine ih hr ?_;k_extra "w";refine ih ht ?_;k_extra "w";rename_i b hb;exact(DAt.mk _ ((L8 (by decide +kernel)).trans Z0) (m9 (Sub.upd hb) h))
   ·rw[ax8] at h
    k_extra "w";refine ih hr ?_;k_extra "w";refine ih ht ?_;k_extra "w";rename_i b hb;exact(DAt.mk _ ((L8 (by decide +kernel)).trans ((L8 (by decide +kernel)).trans Z0)) (m9 (Sub.upd hb) h))
   ·rw[aB9] at h
    k_extra "w";refine ih hr ?_;k_extra "w";refine ih ht ?_;k_extra "w";rename_i b hb;exact(DAt.mk _ ((L8 (by decide +kernel)).trans ((L8 (by decide +kernel)).trans ((L8 (by decide +kernel)).trans Z0))) (m9 (Sub.upd hb) h))
  | wher r t u hr ht hu=>
   rw[Y9] at h;k_extra "w";refine ih hr ?_;k_extra "w";refine ih ht ?_;k_extra "w";refine ih hu ?_;by_cases q:0<wv y (λi=>Ls.getD i.toNat 0) n r
   ·rw[if_pos q] at h
    exact X8 1 _ (by rw[decide_eq_true q];rfl) rfl (d4 h)
   ·rw[if_neg q] at h
    exact X8 0 _ (by rw[decide_eq_false q];rfl) rfl (d4 h)
  | choo i r t h0 h1 hr ht=>
   rw[W6] at h;have hc:=S.tz;k_extra "w";refine aB4 S.ht h0 (by lia) S.t1 ?_
   cases hb:y.T.getD i.toNat false with
   | true=>
    rw[hb,if_pos rfl] at h;refine L3 3 t rfl rfl (by decide) ?_
    exact ih ht (d4 h)
   | false=>
    rw[hb,if_neg ac] at h;refine L3 2 r rfl rfl (by decide) ?_
    exact ih hr (d4 h)
theorem bA6(N:Nm g){i:Int}{Q:VP}(h:Q (.bool true) Y):c7 g (d+1) true "_law_whole" [.int i] Y Q X:=by
 refine cg8 N ?_;k_extra "w";exact d4 h
end
noncomputable def fmV(rules tabs:List V)(C owed:Int):V:=.tup [.tup rules,.tup tabs,.int C,.int owed]
noncomputable def D8(rules:List V)(y:Yr)(rk:Int->Nat):List Int:=(List.range rules.length).map fun(i:Nat)=>sol rules y rk i
theorem FG.lnk{rules tabs:List V}{C owed:Int}{rk:Int->Nat}(h:FG rules tabs C owed rk):Lnk ⟨rules.length,tabs.length,C⟩ rules rk:=
 ⟨λi hi=>(h.gr i _ (C0 hi)).ok (λj hj=>hj.1) (λx hx=>hx) (aI 8),λi hi j hj=>by
  refine a9 ((h.gr i _ (C0 (x:=.none) hi)).line_see _ hj) λk e hk=>?_
  rw[V.int.inj e];exact hk⟩
theorem Ordr.names{rules:List V}{F:List Int}(h:Ordr rules F):∀ {done todo:List Int} {i:Nat},F=done++(i:Int)::todo->Nms (·∈done) 8 (rules.getD i .none):=by
 induction h with
 | nil=>intro done todo i e;cases done<;>cases e
 | @snoc F k h e ih=>
  intro done todo i e';rcases eC todo with rfl | ⟨todo',t,rfl⟩
  ·refine c5 (cL e' rfl) λq1_ e2=>?_;subst q1_
   obtain rfl:k=i:=Int.ofNat.inj (List.cons.inj e2).1;intro j hj;refine c5 (aj5 e) λz_ h2=>?_
   have:=aB.mp ((aQ _ _).mp h2).2 _ hj;exact of_decide_eq_true this
  ·rw[eD,<- List.cons_append,<- aF] at e'
   exact ih (cL e' rfl).1
theorem aG8{f:Int->Int}{l:List Int}{j:Int}(h:j∈l):j9 (l.map λi=>(i,V.int (f i))) j=some (.int (f j)):=by
 obtain⟨v,h1,h2⟩:=al4 (L:=l.map λi=>(i,V.int (f i))) (k:=j) (by rw[aZ];exact ai.mpr ⟨j,h,rfl⟩)
 refine a9 (ai.mp h2) λi z_ e=>?_
 refine c5 (Prod.mk.inj e) λq1_ q2_=>?_;subst q1_;subst q2_
 exact h1
theorem an1{O:List Int}{n:Nat}(hl:O.length=n)(hn:O.Nodup)(hr:∀ x∈O,0<=x/\x<n){i:Nat}(hi:i<n):(i:Int)∈O:=ba λq=>by
 have:=J0 (S:=(i:Int)::O) (n:=n) (bJ.mpr ⟨q,hn⟩) λx hx=>by
  rcases am.mp hx with rfl | hx
  ·exact⟨aJ i,by lia⟩
  ·exact hr x hx
 rw[az,hl] at this;lia
theorem ak1{E:List Int}{n:Nat}(ez:E=[]∨E.length=n)(h:n<=40):E.length<=100:=by
 rcases ez with q | q
 ·rw[q];exact ay _
 ·lia
def bE3(rules:List V)(O:List Int)(f:Int->Int)(va:Addr)(fm pv ev tk yv:V)(pp:V)(Y:Hp)(rest:List V)(Z':Lo)(Y':Hp):Prop:=
 ∀ P_:Prop,(∀ (done todo:List Int) (o:Option V) (e1:O=done++todo) (e2:rest=todo.map .int) (e3:Y'=upd Y va (.di (done.map λi=>(i,V.int (f i))))) (e4:Z'=[some fm,some pv,some ev,some tk,some pp,some (.ref va),some yv,o]),P_)->P_
section
variable{g:G}{d:Nat}{Y:Hp}{Q:V->Hp->Prop}{X:Str->Hp->Prop}
set_option tactic.hygienic true in
theorem cb0(N:Nm g){rules tabs:List V}{C owed:Int}{rk:Int->Nat}(F:FG rules tabs C owed rk){pa ea:Addr}{tk:V}{ps:List (V×V)}{E:List Int}{T:List Bool}(hpa:Y pa=some (.lst (ps.map A1)))(hc:∀ p∈ps,Cld Y p.1/\Cld Y p.2)(hz:ps.length<=1000)
  (he:Y ea=some (.lst (E.map .int))) (ez:E=[]∨E.length=rules.length) (ht:TkAt Y T tk) (tz:T.length<=100)
  (h1:∀ P,papF ps []=some P->(T.length:Int)=C->∀ b,Y b=none->Q (.ref b) (upd Y b (.lst ((D8 rules ⟨P,E,T,tabs⟩ rk).map .int))))
  (h2:papF ps []=none->∀ Y',Sub Y Y'->X (Str.ofString "NoPaper") Y') (h3:∀ P,papF ps []=some P->(T.length:Int)≠C->∀ Y',Sub Y Y'->X (Str.ofString "NoChoice") Y') :
  c7 g (d+13) true "reckoned" [fmV rules tabs C owed,.ref pa,.ref ea,tk] Y Q X:=by
 refine bt2 N ?_;have FF:=F.form;have l40:=F.l40;k_extra "w";refine ck1 (d:=d+9) N hpa hc hz (λP hP b hb=>?_) h2
 k_extra "w";refine bu6 N (ht.sub (Sub.upd hb)) tz (λeT=>?_) (λeT=>h3 P hP eT _ (Sub.upd hb))
 k_extra "w";rename_i va hva;refine ch0 (d:=d) N FF.rule (by lia) FF.acy λfa O hf hO hOl=>?_
 refine c5 hO.ok λOn Or=>?_
 have Yb:YrAt (upd Y b (.ds (dS P))) ⟨rules.length,tabs.length,C⟩ ⟨P,E,T,tabs⟩ b ea tk:=
  ⟨d3 _ _ _,l5 he hb,ht.sub (Sub.upd hb),by rcases ez with q | q;exact .inl q;exact .inr (by show(E.length:Int)=rules.length;rw[q]),ak1 ez l40,eT,rfl,tz,al F.t5 (by decide),λt ht=>(F.tab t ht).1⟩
 generalize hτ:upd Y b (.ds (dS P))=τ at hva hf Yb ⊢;have hsub:Sub Y τ:=hτ▸Sub.upd hb;refine LoopR.tmp hf (Loop.g (bE3 rules O (sol rules ⟨P,E,T,tabs⟩ rk) va (fmV rules tabs C owed) (.ref pa) (.ref ea) tk (.tup [.ref b,.ref ea,tk,.tup tabs,.ref va]) (.ref b) τ) (λ_ k_=>k_ [] O none rfl rfl rfl rfl) (λR J hR hJ=>?_) ?_)
 ·rintro v rest _ _ hh_;refine hh_ _ ?_;clear hh_;rintro done todo o e1 e2 rfl rfl
  refine⟨trivial,?_⟩;cases todo with
  | nil=>cases e2
  | cons x todo=>
   refine c5 (List.cons.inj e2) λe3 q1_=>?_;subst q1_
   subst e3;obtain⟨x0,x1⟩:=Or x (by rw[e1];simp)
   refine c6 (aT x0) λi q1_=>?_;subst q1_
   have hi:i<rules.length:=by lia
   have hnd:(i:Int)∉done:=λq=>(aV.mp (e1▸On)).2.2 _ q _ (.head _) rfl
   have hdl:done.length<=100:=by have:=congrArg List.length e1;rw[ar,hOl] at this;lia
   have hmk:(done.map λi=>(i,V.int (sol rules ⟨P,E,T,tabs⟩ rk i))).map (·.1)=done:=by rw[aZ];exact List.map_id'' (λ_=>rfl) _
   k_extra "w";refine Idx.mk (aJ i) (by lia) (by lia) λr hr=>?_
   obtain rfl:r=rules.getD i .none:=T5 hr;refine cd1 (d:=d+2) (f:=sol rules ⟨P,E,T,tabs⟩ rk) N (Yb.sub (Sub.upd hva)) (d3 _ _ _) 8 (F.lnk.ok i hi) (λj hj=>aG8 (hO.names e1 j hj)) ?_
   rw[ao2 F.lnk hi];have hL:(done.map λi=>(i,V.int (sol rules ⟨P,E,T,tabs⟩ rk i))).length<=10000:=by rw[aa];lia
   k_extra "w";refine hJ (λ_ k_=>k_ (done++[(i:Int)]) todo _ (by rw[e1,aF];rfl) rfl ?_ rfl)
   rw[av1 (by rw[hmk];exact hnd),ak];rfl
 ·rintro _ _ hh_;refine hh_ _ ?_;clear hh_;rintro done todo o e1 e2 rfl rfl
  refine⟨trivial,?_⟩;obtain rfl:todo=[]:=by cases todo with | nil=>rfl | cons _ _=>cases e2
  rw[aL] at e1;subst e1;k_extra "w";refine O1 (λi acc Y'=>upd τ va (.di (O.map λi=>(i,V.int (sol rules ⟨P,E,T,tabs⟩ rk i))))=Y'/\acc=((List.range i).map fun(k:Nat)=>sol rules ⟨P,E,T,tabs⟩ rk k).map V.int) (by lia) ⟨rfl,rfl⟩ (λJ hJ=>?_) ?_
  ·rintro i acc _ hi hh_;refine c5 hh_ λq1_ q2_=>?_;clear hh_;subst q1_;subst q2_
   have e0:(0:Int)+(i:Int)=i:=bI _;rw[e0];k_extra "w";refine DAt.mk _ (aG8 (an1 hOl On Or (by lia))) ?_
   exact CJ.next hi (hJ ⟨rfl,by rw[bn,ak,ak];rfl⟩)
  ·rintro acc _ ⟨rfl,rfl⟩ c hcn
   have e2:((rules.length:Int)-0).toNat=rules.length:=H6 _;rw[e2];refine c5 (j7 hcn) λc1 c2=>?_
   exact m9 (D7 (hsub.trans (Sub.upd hva))) (h1 P hP eT c (S5 hsub c2))
end
structure GP(P:List (Str×Int)):Prop where
 nd:((dS P).map (·.1)).Nodup
 wd:∀ p∈P,m5 p.1=true
 lo:∀ p∈P,-1000000000<=p.2
 hi:∀ p∈P,p.2<=1000000000
theorem bs4{st b:Addr}{Y Y':Hp}{o o':AObj}(h1:j8 st b Y Y')(h2:Y' st=some o)(h3:Y' b=some o'):Sub (upd (upd Y st o) b o') Y':=λa x e=>by
 by_cases q:a=b
 ·subst q;rw[d3] at e;rw[h3];exact e
 ·rw[d8 _ _ q] at e
  by_cases q2:a=st
  ·subst q2;rw[d3] at e;rw[h2];exact e
  ·rw[d8 _ _ q2] at e;exact h1 a x q2 q e
theorem ar2{P:List (Str×Int)}{x:Str}{i:Int}:dS (P++[(x,i)])=dS P++[(x,.int i)]:=by unfold dS;rw[ak];rfl
theorem GP.snoc{P:List (Str×Int)}{x:Str}{i:Int}(h:GP P)(hx:x∉(dS P).map (·.1))(hw:m5 x=true)(h0 : -1000000000<=i)(h1:i<=1000000000):GP (P++[(x,i)]):=by
 have key:∀ {R:Str×Int->Prop},(∀ p∈P,R p)->R (x,i)->∀ p∈P++[(x,i)],R p:=fun{R} a b p hp=>by
  rcases au.mp hp with q | q
  ·exact a p q
  ·rw[ah.mp q];exact b
 refine⟨?_,key h.wd hw,key h.lo h0,key h.hi h1⟩;rw[ar2,ak];refine aV.mpr ⟨h.nd,by simp,λa ha b hb e=>?_⟩
 rw[ah.mp hb] at e;have e:a=x:=e;exact hx (e▸ha)
def PpJ(st wl b:Addr)(ws:List Str)(Y:Hp)(rest:List V)(Z':Lo)(Y':Hp):Prop:=
 ∀ P_:Prop,(∀ (todo:List Str) (P:List (Str×Int)) (n:Int) (o:Option V) (e1:rest=todo.map .str) (hw:∀ x∈todo,m5 x=true) (hP:GP P) (hz:P.length+todo.length<=ws.length) (h0:0<=n) (h1:n<2147483647) (hst:Y' st=some (.lst [.int n])) (hb:Y' b=some (.lst ((dS P).map D6))) (hS:j8 st b Y Y')
  (e2:Z'=[some (.ref st),some (.ref wl),some (.ref b),o]),P_)->P_
theorem bb5{P:List (Str×V)}{x:Str}:((P.map (·.1)).any (· == x))=false->x∉P.map (·.1):=λh q=>by
 rw[List.any_eq_false] at h;exact h x q (by k_extra "mem")
section
variable{g:G}{d:Nat}{Y:Hp}{Q:V->Hp->Prop}{X:Str->Hp->Prop}
open Internal renaming E2->y26,ah7->y27
theorem cl2:True:=by
 k_with "call"=>first | (refine y26 (by with_reducible assumption) (by k_extra "heap") (by with_reducible assumption) (by with_reducible assumption) (by k_extra "n") (by k_extra "n") ?_;intro _ _ _ _ _ _) | (refine y27 (by with_reducible assumption) (by k_extra "heap") (by with_reducible assumption) (by with_reducible assumption) ?_;intro _ _ _ _ _ _)
 trivial
set_option tactic.hygienic true in
theorem bG1(N:Nm g){st wl:Addr}{n:Int}{ws:List Str}(hst:Y st=some (.lst [.int n]))(h0:0<=n)(h1:n<2147483647)(hwl:Y wl=some (.lst (ws.map .str)))(hne:wl≠st)(hw:∀ x∈ws,m5 x=true)(hz:ws.length<=100)
  (h:∀ b P n',b≠st->Y b=none->GP P->P.length<=ws.length->0<=n'->n'<2147483647->Q (.ref b) (upd (upd Y st (.lst [.int n'])) b (.lst ((dS P).map D6)))) :
  c7 g (d+3) true "_law_papers" [.ref st,.ref wl] Y Q X:=by
 refine aV3 N ?_;k_extra "w";rename_i b hb;have hbs:st≠b:=j5 hst hb;have hbw:wl≠b:=j5 hwl hb;refine LoopR.held _ (l5 hwl hb) (Loop.g (PpJ st wl b ws Y) (λ_ k_=>k_ ws [] n none rfl hw ⟨.nil,λp hp=>(by cases hp),λp hp=>(by cases hp),λp hp=>(by cases hp)⟩ (by simp) h0 h1 (l5 hst hb) (d3 _ _ _) j8.r rfl) (λR J hR hJ=>?_) ?_)
 ·rintro v rest _ Y' hh_;refine hh_ _ ?_;clear hh_;rintro todo P n o e1 hw hP hz' h0 h1 hst' hb' hS rfl
  have hwl':=hS wl _ hne hbw hwl;refine⟨hwl',?_⟩;cases todo with
  | nil=>cases e1
  | cons x todo=>
   refine c5 (List.cons.inj e1) λe3 q1_=>?_;subst q1_
   subst e3;rw[az] at hz';have hx:=hw x (.head _);have hw':∀ x∈todo,m5 x=true:=λy hy=>hw y (.tail _ hy)
   have hPl:(dS P).length=P.length:=aa _;have hbs':=Ne.symm hbs;k_extra "w"
   ·rename_i r n1 r0 r3 n0 n2 q
    have hb1:upd Y' st (.lst [.int n1]) b=some (.lst ((dS P).map D6)):=by rw[d8 _ _ hbs'];exact hb'
    refine CLoop.g (λrest acc Y2=>upd Y' st (.lst [.int n1])=Y2/\∃ done todo:List (Str×V),dS P=done++todo/\rest=todo.map D6/\acc=(done.map (·.1)).map V.str) (by rw[aa];lia) ⟨rfl,[],_,rfl,rfl,rfl⟩ (λJ hJ=>?_) ?_
    ·rintro v rest acc _ hh_;obtain⟨rfl,done,todo',e,hr,rfl⟩:=hh_
     refine⟨hb1,?_⟩;cases todo' with
     | nil=>cases hr
     | cons p todo'=>
      refine c5 (List.cons.inj hr) λe4 q1_=>?_;subst q1_
      obtain rfl:v=.tup [.str p.1,p.2]:=e4;k_extra "w";exact hJ ⟨rfl,done++[p],todo',by rw[e,aF];rfl,rfl,by rw[ak,ak];rfl⟩
    ·rintro acc _ hh_;obtain⟨rfl,done,todo',e,hr,rfl⟩:=hh_
     obtain rfl:todo'=[]:=by cases todo' with | nil=>rfl | cons _ _=>cases hr
     rw[aL] at e;subst e;refine⟨hb1,λc hc=>?_⟩
     refine InR.l (Look.mk _ (d3 _ _ _) (InL.ofStrs ((dS P).map (·.1)) x rfl rfl ?_))
     rw[bU];have hcs:st≠c:=j5 (d3 _ _ _) hc;have hcb:b≠c:=j5 hb1 hc;have hbz:((dS P).map D6).length<=10000:=by rw[aa];lia
     have hbz':=hcb;k_extra "w"
     ·rename_i q2
      exact hJ (λ_ k_=>k_ todo P n1 _ rfl hw' hP (by lia) (by assumption) (by assumption) (by rw[d8 _ _ hcs,d3]) (by rw[d8 _ _ hcb];exact hb1) ((hS.trans j8.l).sub (Sub.upd hc)) rfl)
     ·rename_i q2 i n3 i0 i1 n4 n5
      refine hJ (λ_ k_=>k_ todo (P++[(x,i)]) n3 _ rfl hw' (hP.snoc (bb5 q2) hx i0 i1) (by rw[ar];show P.length+1+_<=_;lia) n4 n5 (by rw[d8 _ _ hbs,d3]) (by rw[d3,ar2,ak];rfl) ((((hS.trans j8.l).sub (Sub.upd hc)).trans j8.l).trans j8.r) rfl)
   ·rename_i r n1 r0 r3 n0 n2 q
    exact hJ (λ_ k_=>k_ todo P n1 _ rfl hw' hP (by lia) n0 n2 (d3 _ _ _) (by rw[d8 _ _ hbs'];exact hb') (hS.trans j8.l) rfl)
 ·rintro _ Y' hh_;refine hh_ _ ?_;clear hh_;rintro todo P n o e1 hw hP hz' h0 h1 hst' hb' hS rfl
  refine⟨hS wl _ hne hbw hwl,?_⟩;k_extra "w";exact m9 (bs4 hS hst' hb') (h b P n (Ne.symm hbs) hb hP (by lia) h0 h1)
end
noncomputable def g9(P:List (Str×Int)):List (V×V):=P.map λp=>(.str p.1,.int p.2)
theorem ay8{P:List (Str×Int)}:(dS P).map D6=(g9 P).map A1:=by unfold dS g9;rw[aZ,aZ];rfl
theorem bv9{P:List (Str×Int)}(h:GP P)(Y:Hp):∀ p∈g9 P,Cld Y p.1/\Cld Y p.2:=λp hp=>by
 refine a9 (ai.mp hp) λq hq q1_=>?_;subst q1_
 exact⟨.str (al (ak9 (h.wd q hq)).2.2 (by decide)),.int _⟩
theorem cf3{D:List (Str×Int)}{x:Str}(h:x∉(dS D).map (·.1)):(j9 (dS D) x).isSome=false:=by
 cases e:j9 (dS D) x with
 | none=>rfl
 | some v=>
  unfold j9 at e;refine a9 (aA.mp e) λp hp z_=>?_
  have:=List.find?_some hp;exact absurd (ai.mpr ⟨p,cz hp,of_decide_eq_true this⟩) h
theorem bw6:∀ (P2 P1:List (Str×Int)),((dS (P1++P2)).map (·.1)).Nodup->(∀ p∈P2,m5 p.1=true/\-1000000000<=p.2/\p.2<=1000000000)->papF (g9 P2) P1=some (P1++P2):=by
 intro P2;induction P2 with
 | nil=>intro P1 _ _;rw[aL];rfl
 | cons p P2 ih=>
  intro P1 hn hg;refine k6 (hg p (.head _)) λh1 h2 h3=>?_
  have e:P1++p::P2=(P1++[p])++P2:=by rw[aF];rfl
  have hnot:p.1∉(dS P1).map (·.1):=λq=>by
   unfold dS at hn;rw[ak,ak] at hn;exact(aV.mp hn).2.2 _ q _ (.head _) rfl
  rw[e] at hn ⊢;have:=ax4 (p:=(V.str p.1,V.int p.2)) (l:=g9 P2) (D:=P1) (by unfold gdP;rw[A5 (by lia) h3];show(m5 p.1&&true)=true;rw[h1];rfl) (cf3 hnot)
  exact this.trans (ih (P1++[p]) hn λq hq=>hg q (.tail _ hq))
theorem GP.papF{P:List (Str×Int)}(h:GP P):papF (g9 P) []=some P:=bw6 P [] h.nd λp hp=>⟨h.wd p hp,h.lo p hp,h.hi p hp⟩
theorem w9{l:List V}(h:∀ x∈l,nz x=true):nzL l=true:=by
 induction l with
 | nil=>rfl
 | cons x l ih=>
  show(nz x&&nzL l)=true;rw[h x (.head _),ih λy hy=>h y (.tail _ hy)];rfl
theorem G2{l:List V}(h1:zp l=false)(h2:nzL l=true):nz (.tup l)=true:=by
 show(!zp l&&nzL l)=true;rw[h1,h2];rfl
theorem ad2{x y z:V}(hx:zp [x,y,z]=false)(h1:nz x=true)(h2:nz y=true)(h3:nz z=true):nz (.tup [x,y,z])=true:=G2 hx (by
 show(nz x&&(nz y&&(nz z&&true)))=true;rw[h1,h2,h3];rfl)
theorem aa7{x y z u:V}(hx:zp [x,y,z,u]=false)(h1:nz x=true)(h2:nz y=true)(h3:nz z=true)(h4:nz u=true):nz (.tup [x,y,z,u])=true:=G2 hx (by
 show(nz x&&(nz y&&(nz z&&(nz u&&true))))=true;rw[h1,h2,h3,h4];rfl)
theorem bh0{z:Lim}:∀ (n:Nat) {v:V},ok z n v=true->nz v=true:=by
 intro n;induction n with
 | zero=>intro v h;exact ff h
 | succ n ih=>
  intro v h;cases L7 h with
  | num i=>rfl
  | paper x=>rfl
  | line i h0 h1=>rfl
  | earlier i h0 h1=>rfl
  | part r i hr h0 h1=>exact ad2 rfl rfl (ih hr) rfl
  | table i r h0 h1 hr=>exact ad2 rfl rfl rfl (ih hr)
  | two w r t hw hr ht=>exact ad2 rfl rfl (ih hr) (ih ht)
  | wher r t u hr ht hu=>exact aa7 rfl rfl (ih hr) (ih ht) (ih hu)
  | choo i r t h0 h1 hr ht=>exact aa7 rfl rfl rfl (ih hr) (ih ht)
theorem T6{l:List V}(h:∀ x∈l,∃ k,x=.tup k):zp l=false:=by
 cases l with
 | nil=>rfl
 | cons x l=>
  refine c6 (h x (.head _)) λk q1_=>?_;subst q1_
  cases l with
  | nil=>rfl
  | cons y l=>cases l with
   | nil=>rfl
   | cons _ _=>rfl
theorem be4{z:Lim}{v:V}(h:ok z 8 v=true):∃ k,v=.tup k:=by
 cases L7 h<;>exact⟨_,rfl⟩
theorem bm9{t:V}(h:u4 t=true):nz t=true:=by
 refine a9 (V8 h) λl q1_ hr=>?_;subst q1_
 refine G2 (T6 λx hx=>?_) (w9 λx hx=>?_)
 ·refine x8 (O8 (hr x hx)) λa b c q1_ z_=>?_;subst q1_;exact⟨_,rfl⟩
 ·refine x8 (O8 (hr x hx)) λa b c q1_ z_=>?_;subst q1_;rfl
theorem FG.nz{rules tabs:List V}{C owed:Int}{rk:Int->Nat}(F:FG rules tabs C owed rk):nz (fmV rules tabs C owed)=true:=by
 have FF:=F.form;refine aa7 rfl (G2 (T6 λx hx=>be4 (FF.rule x hx).ok) (w9 λx hx=>bh0 8 (FF.rule x hx).ok)) (G2 (T6 λx hx=>?_) (w9 λx hx=>bm9 (F.tab x hx).1)) rfl rfl
 refine a9 (V8 (F.tab x hx).1) λl q1_ z_=>?_;subst q1_
 exact⟨_,rfl⟩
theorem NR.nil:NR []:=λi v e=>by cases e
theorem NR.cons{o:Option V}{Z:Lo}(h:∀ v,o=some v->Internal.nz v=true)(k:NR Z):NR (o::Z):=λi v e=>by
 cases i with
 | zero=>exact h v (Option.some.inj e)
 | succ i=>exact k i v e
theorem NR.some{v:V}{Z:Lo}(h:Internal.nz v=true)(k:NR Z):NR (some v::Z):=k.cons λw e=>by cases e;exact h
structure PAt(Y:Hp)(cs:List Addr)(Ls:List (List V)):Prop where
 len:cs.length=Ls.length
 at':∀ {j:Nat} {c:Addr} {x:List V},cs[j]?=some c->Ls[j]?=some x->Y c=some (.lst x)
theorem PAt.nil{Y:Hp}:PAt Y [] []:=⟨rfl,λe=>by cases e⟩
theorem PAt.sub{Y Y':Hp}{cs:List Addr}{Ls:List (List V)}(h:PAt Y cs Ls)(k:Sub Y Y'):PAt Y' cs Ls:=⟨h.len,λe1 e2=>k _ _ (h.at' e1 e2)⟩
theorem PAt.stay{Y Y':Hp}{A:List Addr}{cs:List Addr}{Ls:List (List V)}(h:PAt Y cs Ls)(k:d9 A Y Y')(hA:∀ c∈cs,c∉A):PAt Y' cs Ls:=⟨h.len,λe1 e2=>k _ _ (hA _ (aD e1)) (h.at' e1 e2)⟩
theorem af6{α:Type}{l:List α}{x y:α}{j:Nat}(h:(l++[x])[j]?=some y):(j<l.length/\l[j]?=some y)∨(j=l.length/\y=x):=by
 by_cases q:j<l.length
 ·rw[bM q] at h;exact .inl ⟨q,h⟩
 ·rw[aS (bg q)] at h
  have h2:=(aj.mp h).1;rw[List.length_singleton] at h2;have e:j=l.length:=cv (Nat.le_of_sub_eq_zero (Nat.lt_one_iff.mp h2)) (bg q);subst e;rw[cD] at h;exact .inr ⟨rfl,(Option.some.inj h).symm⟩
theorem PAt.snoc{Y:Hp}{cs:List Addr}{Ls:List (List V)}{c:Addr}{x:List V}(h:PAt Y cs Ls)(e:Y c=some (.lst x)):PAt Y (cs++[c]) (Ls++[x]):=
 ⟨by rw[ar,ar,h.len];rfl,λe1 e2=>by
  rcases af6 e1 with ⟨q1,e1⟩ | ⟨q1,rfl⟩
  ·rcases af6 e2 with ⟨q2,e2⟩ | ⟨q2,rfl⟩
   ·exact h.at' e1 e2
   ·have:=h.len;lia
  ·rcases af6 e2 with ⟨q2,e2⟩ | ⟨q2,rfl⟩
   ·have:=h.len;lia
   ·exact e⟩
theorem PAt.get{Y:Hp}{cs:List Addr}{Ls:List (List V)}(h:PAt Y cs Ls){j:Nat}{x:List V}(e:Ls[j]?=some x):∃ c,cs[j]?=some c/\Y c=some (.lst x):=by
 have q:=(aj.mp e).1;rw[<- h.len] at q;exact⟨_,ae q,h.at' (ae q) e⟩
theorem PAt.has{Y:Hp}{cs:List Addr}{Ls:List (List V)}(h:PAt Y cs Ls){c:Addr}(hc:c∈cs):∃ x∈Ls,Y c=some (.lst x):=by
 obtain⟨j,hj,rfl⟩:=cq hc;have q:=hj;rw[h.len] at q;exact⟨_,bv q,h.at' (ae hj) (ae q)⟩
noncomputable def eS(rules tabs:List V)(rk:Int->Nat)(E:List Int)(r:List (V×V)×List Bool):List Int:=D8 rules ⟨(papF r.1 []).getD [],E,r.2,tabs⟩ rk
noncomputable def eY(rules tabs:List V)(rk:Int->Nat)(Us:List (List (V×V)))(Ts:List (List Bool))(k:Nat):List Int:=((Us.zip Ts).take k).foldl (eS rules tabs rk) []
noncomputable def hL(rules tabs:List V)(rk:Int->Nat)(Us:List (List (V×V)))(Ts:List (List Bool))(k:Nat):List (List V):=(List.range k).map λj=>(eY rules tabs rk Us Ts (j+1)).map V.int
section
variable{rules tabs:List V}{rk:Int->Nat}{Us:List (List (V×V))}{Ts:List (List Bool)}
theorem ag0{k:Nat}{u:List (V×V)}{T:List Bool}(hu:Us[k]?=some u)(hT:Ts[k]?=some T):eY rules tabs rk Us Ts (k+1)=D8 rules ⟨(papF u []).getD [],eY rules tabs rk Us Ts k,T,tabs⟩ rk:=by
 have e:(Us.zip Ts)[k]?=some (u,T):=List.getElem?_zip_eq_some.mpr ⟨hu,hT⟩;unfold eY;rw[bD,e,List.foldl_append];rfl
theorem T7{y:Yr}:(D8 rules y rk).length=rules.length:=by unfold D8;rw[aa,aN]
theorem ae9(k:Nat):eY rules tabs rk Us Ts k=[]∨(eY rules tabs rk Us Ts k).length=rules.length:=by
 induction k with
 | zero=>exact .inl rfl
 | succ k ih=>
  cases e:(Us.zip Ts)[k]? with
  | none=>unfold eY;rw[bD,e,Option.toList_none,aL];exact ih
  | some r=>unfold eY;rw[bD,e,List.foldl_append];exact .inr T7
theorem aU2(k:Nat):hL rules tabs rk Us Ts (k+1)=hL rules tabs rk Us Ts k++[(eY rules tabs rk Us Ts (k+1)).map V.int]:=by
 unfold hL;rw[bn,ak];rfl
theorem ad4(k:Nat):(hL rules tabs rk Us Ts k).length=k:=by unfold hL;rw[aa,aN]
theorem bi6{k:Nat}{x:List V}(h:x∈hL rules tabs rk Us Ts k):∃ j,x=(eY rules tabs rk Us Ts (j+1)).map V.int:=by
 refine a9 (ai.mp h) λj z_ q1_=>?_;subst q1_
 exact⟨j,rfl⟩
end
theorem R9{l:List Addr}:nzO (.lst (l.map V.ref))=true:=w9 λx hx=>by refine a9 (ai.mp hx) λc z_ q1_=>?_;subst q1_;rfl
theorem aa0{l:List Int}:nzO (.lst (l.map V.int))=true:=w9 λx hx=>by refine a9 (ai.mp hx) λc z_ q1_=>?_;subst q1_;rfl
def CpJ(τ:Hp)(cs:List Addr)(Ls:List (List V))(rest acc:List V)(Y':Hp):Prop:=
 ∀ P_:Prop,(∀ (d1 d2 bs:List Addr) (e1:cs=d1++d2) (e2:rest=d2.map .ref) (e3:acc=bs.map .ref) (hs:Sub τ Y') (hn:NZ Y') (hP:PAt Y' bs (Ls.take d1.length)),P_)->P_
theorem cc6{xa:Addr}{cs:List Addr}{Ls:List (List V)}{τ:Hp}{turn:V->Hp->VP->(Hp->Prop)->Prop}{Q:VP}(hx:τ xa=some (.lst (cs.map .ref)))(hP:PAt τ cs Ls)(hz:cs.length<=1000)(nz:NZ τ)
  (ht:∀ Y' c x (yes:VP) (no:Hp->Prop),x∈Ls->Y' c=some (.lst x)->(∀ b,Y' b=none->yes (.ref b) (upd Y' b (.lst x)))->turn (.ref c) Y' yes no)
  (h:∀ Y' b bs,Sub τ Y'->NZ Y'->Y' b=some (.lst (bs.map .ref))->PAt Y' bs Ls->Q (.ref b) Y'):CLoop (cs.map .ref) (λY=>Y xa=some (.lst (cs.map .ref))) τ turn Q:=by
 refine CLoop.g (CpJ τ cs Ls) (by rw[aa];lia) (λz_ k_=>k_ [] cs [] rfl rfl rfl (Sub.refl _) nz PAt.nil) (λJ hJ=>?_) ?_
 ·rintro v rest acc Y' hh_;refine hh_ _ ?_;clear hh_;rintro d1 d2 bs e1 e2 rfl hs hn hP'
  refine⟨hs _ _ hx,?_⟩;cases d2 with
  | nil=>cases e2
  | cons c d2=>
   refine c5 (List.cons.inj e2) λq1_ q2_=>?_;subst q1_;subst q2_
   have hc:cs[d1.length]?=some c:=by rw[e1,aS (aI _),cD];rfl
   have q:=(aj.mp hc).1;rw[hP.len] at q;have hl:=ae q;have hcx:=hP.at' hc hl;refine ht Y' c _ _ _ (bv q) (hs _ _ hcx) λb hb=>hJ (λz_ k_=>k_ (d1++[c]) d2 (bs++[b]) (by rw[e1,aF];rfl) rfl (by rw[ak];rfl) (hs.trans (Sub.upd hb)) (hn.upd (nz c _ hcx)) ?_)
   rw[ar];show PAt _ _ (Ls.take (d1.length+1));rw[bD,hl];exact(hP'.sub (Sub.upd hb)).snoc (d3 _ _ _)
 ·rintro acc Y' hh_;refine hh_ _ ?_;clear hh_;rintro d1 d2 bs e1 e2 rfl hs hn hP'
  refine⟨hs _ _ hx,λa ha=>?_⟩
  obtain rfl:d2=[]:=by cases d2 with | nil=>rfl | cons _ _=>cases e2
  rw[aL] at e1;subst e1;rw[hP.len,bF] at hP';exact h _ a bs (hs.trans (Sub.upd ha)) (hn.upd R9) (d3 _ _ _) (hP'.sub (Sub.upd ha))
theorem TkAt.nz{Y:Hp}{T:List Bool}{v:V}(h:TkAt Y T v):nz v=true:=by
 cases h with
 | lst a h=>rfl
 | tup=>
  refine G2 ?_ (w9 λx hx=>by refine a9 (ai.mp hx) λb z_ q1_=>?_;subst q1_;rfl)
  cases T with
  | nil=>rfl
  | cons a T=>cases T with
   | nil=>rfl
   | cons b T=>cases T with
    | nil=>rfl
    | cons _ _=>rfl
structure Fl(l:List V):Prop where
 fl:flatL l=true
 de:depL l<=1
theorem Fl.of{l:List V}(h:∀ x∈l,flat x=true/\dep x<=1):Fl l:=by
 induction l with
 | nil=>exact⟨rfl,ay _⟩
 | cons x l ih=>
  refine c5 (h x (.head _)) λh1 h2=>?_
  obtain⟨h3,h4⟩:=ih λy hy=>h y (.tail _ hy)
  exact⟨by show(flat x&&flatL l)=true;rw[h1,h3];rfl,cU.mpr ⟨h2,h4⟩⟩
theorem Fl.ints{l:List Int}:Fl (l.map .int):=.of λx hx=>by refine a9 (ai.mp hx) λi z_ q1_=>?_;subst q1_;exact⟨rfl,ay _⟩
noncomputable def w6:Nat->Nat->List Bool
 | 0,_=>[]
 | n+1,k=>w6 n (k / 2)++[k%2==1]
noncomputable def H1:Nat->Nat->List Bool
 | 0,_=>[]
 | n+1,k=>(k / 2 ^ n%2==1)::H1 n k
theorem K4(n:Nat):∀ k,(w6 n k).length=n:=by
 induction n with
 | zero=>intro k;rfl
 | succ n ih=>intro k;show(w6 n (k / 2)++[_]).length=_;rw[ar,ih];rfl
theorem bO8(n:Nat):∀ k,H1 (n+1) k=H1 n (k / 2)++[k%2==1]:=by
 induction n with
 | zero=>intro k;show[k / 1%2==1]=_;rw[Nat.div_one];rfl
 | succ n ih=>
  intro k;show(k / 2 ^ (n+1)%2==1)::H1 (n+1) k=(k / 2 / 2 ^ n%2==1)::H1 n (k / 2)++[k%2==1];rw[ih,ew,show 2*2 ^ n=2 ^ (n+1) by rw[dL,dM]];rfl
theorem aN4(n:Nat):∀ k,H1 n k=w6 n k:=by
 induction n with
 | zero=>intro k;rfl
 | succ n ih=>intro k;rw[bO8,ih];rfl
noncomputable def s8(n:Nat):List (List Bool):=(List.range (2 ^ n)).map (w6 n)
noncomputable def ab5(T:List Bool):List (List Bool):=[T++[false],T++[true]]
theorem cc5{α:Type}(f:Nat->α)(m:Nat):(List.range (2*m)).map f=((List.range m).map λk=>[f (2*k),f (2*k+1)]).flatten:=by
 induction m with
 | zero=>rfl
 | succ m ih=>
  rw[show 2*(m+1)=2*m+1+1 by lia,bn,bn,ak,ak,ih,bn,ak,eQ,aF];rfl
theorem bB6(n:Nat):s8 (n+1)=((s8 n).map ab5).flatten:=by
 unfold s8;rw[dL,dM,cc5,aZ]
 congr 1
 refine cX λk z_=>?_
 show[w6 n (2*k / 2)++[2*k%2==1],w6 n ((2*k+1) / 2)++[(2*k+1)%2==1]]=[w6 n k++[false],w6 n k++[true]];rw[show 2*k / 2=k by lia,show(2*k+1) / 2=k by lia,show 2*k%2=0 by lia,show(2*k+1)%2=1 by lia];rfl
noncomputable def A9(c m:Nat)(T:List Bool):List (List Bool):=(List.range m).map λk=>(T.drop (k*c)).take c
noncomputable def trV(T:List Bool):V:=.tup (T.map .bool)
noncomputable def q9(Ts:List (List Bool)):V:=.tup (Ts.map trV)
theorem T1{c m:Nat}{T:List Bool}:(A9 c m T).length=m:=by unfold A9;rw[aa,aN]
theorem al7{c m:Nat}{T:List Bool}(h:T.length=c*m):∀ r∈A9 c m T,r.length=c:=λr hr=>by
 refine a9 (ai.mp hr) λk hk q1_=>?_;subst q1_
 have hk:=bc.mp hk;have h2:(k+1)*c<=c*m:=by rw[dM];exact bS c hk
 rw[bR,cg,h,bB];rw[Nat.succ_mul,dG] at h2;exact Nat.le_sub_of_add_le h2
theorem aq9{T:List Bool}{a c:Nat}(h:a+c<=T.length):slc (some (a:Int)) (some ((a:Int)+c)) (T.map V.bool)=((T.drop a).take c).map V.bool:=by
 have e1:clipAt (T.map V.bool).length (a:Int)=a:=by rw[I2 (aJ a),bL,aa,bB (by lia)]
 have e2:clipAt (T.map V.bool).length ((a:Int)+c)=a+c:=by rw[I2 (by lia),aa,show((a:Int)+c).toNat=a+c from rfl,bB h]
 show(((T.map V.bool).drop (clipAt (T.map V.bool).length (a:Int))).take (clipAt (T.map V.bool).length ((a:Int)+c)-clipAt (T.map V.bool).length (a:Int)))=_;rw[e1,e2,dP,eK,List.map_drop]
noncomputable def ab0(rules tabs:List V)(rk:Int->Nat)(owed:Int)(Us:List (List (V×V)))(Ts:List (List Bool)):Int:=((List.range Ts.length).map λi=>(eY rules tabs rk Us Ts (i+1)).getD owed.toNat 0).sum
noncomputable def E0(rules tabs:List V)(rk:Int->Nat)(owed:Int)(c:Nat)(Us:List (List (V×V)))(T:List Bool):V:=.tup [q9 (A9 c Us.length T),.int (ab0 rules tabs rk owed Us (A9 c Us.length T))]
noncomputable def s6(rules tabs:List V)(rk:Int->Nat)(owed:Int)(c:Nat)(Us:List (List (V×V))):List V:=(s8 (c*Us.length)).map (E0 rules tabs rk owed c Us)
structure HIn(Y:Hp)(ya:Addr)(as:List Addr)(Us:List (List (V×V))):Prop where
 hy:Y ya=some (.lst (as.map .ref))
 pa:PAt Y as (Us.map (·.map A1))
 cl:∀ u∈Us,∀ Y,∀ p∈u,Cld Y p.1/\Cld Y p.2
 uz:∀ u∈Us,u.length<=1000
 zz:Us.length<=100
theorem HIn.sub{Y Y':Hp}{ya:Addr}{as:List Addr}{Us:List (List (V×V))}(H:HIn Y ya as Us)(k:Sub Y Y'):HIn Y' ya as Us:=⟨k _ _ H.hy,H.pa.sub k,H.cl,H.uz,H.zz⟩
theorem al6{T:List Bool}:nz (trV T)=true:=(TkAt.tup (Y:=λz_=>none) (T:=T)).nz
theorem M6{Ts:List (List Bool)}:nz (q9 Ts)=true:=G2 (T6 λx hx=>by refine a9 (ai.mp hx) λT z_ q1_=>?_;subst q1_;exact⟨_,rfl⟩) (w9 λx hx=>by refine a9 (ai.mp hx) λT z_ q1_=>?_;subst q1_;exact al6)
def HsJ(rules tabs:List V)(rk:Int->Nat)(Us:List (List (V×V)))(Ts:List (List Bool))(fm rv:V)(ya fa:Addr)(Y:Hp)(i:Nat)(Z':Lo)(Y':Hp):Prop:=
 ∀ P_:Prop,(∀ (ea:Addr) (cs:List Addr) (o1 o2:Option V) (g1:∀ (j:Nat) u,j<i->Us[j]?=some u->papF u []≠none) (hs:Sub Y Y') (hn:NZ Y') (hf:Y' fa=some (.lst (cs.map .ref))) (hP:PAt Y' cs (hL rules tabs rk Us Ts i)) (he:Y' ea=some (.lst ((eY rules tabs rk Us Ts i).map .int)))
  (hne:∀ c∈cs,c≠fa) (q1:∀ v,o1=some v->nz v=true) (q2:∀ v,o2=some v->nz v=true) (e:Z'=[some fm,some (.ref ya),some rv,some (.ref fa),some (.ref ea),o1,o2]),P_)->P_
section
variable{g:G}{d:Nat}{Y:Hp}{Q:V->Hp->Prop}{X:Str->Hp->Prop}{rules tabs:List V}{C owed:Int}{rk:Int->Nat}{ya:Addr}{as:List Addr}{Us:List (List (V×V))}
set_option tactic.hygienic true in
theorem aY4(N:Nm g)(F:FG rules tabs C owed rk){Ts:List (List Bool)}(H:HIn Y ya as Us)(lu:Us.length=Ts.length)(hC:∀ T∈Ts,(T.length:Int)=C)(nz:NZ Y)
  (h1:(∀ u∈Us,papF u []≠none)->∀ Y' b cs,Sub Y Y'->NZ Y'->Y' b=some (.lst (cs.map .ref))->PAt Y' cs (hL rules tabs rk Us Ts Ts.length)->Q (.ref b) Y')
  (h2:(∃ u∈Us,papF u []=none)->∀ Y',Sub Y Y'->X (Str.ofString "NoPaper") Y') :
  c7 g (d+14) true "history" [fmV rules tabs C owed,.ref ya,q9 Ts] Y Q X:=by
 refine bK0 N ?_;obtain⟨hy,pa,cl,uz,zz⟩:=H;have c8:=F.c8;have la:as.length=Ts.length:=by rw[pa.len,aa,lu]
 have el:min (as.map V.ref).length (Ts.map trV).length=Ts.length:=by rw[aa,aa,la,cW]
 have zk:∀ {Y':Hp} {fa ea:Addr} {o1 o2:Option V},Sub Y Y'->NZ Y'->(∀ v,o1=some v->Internal.nz v=true)->(∀ v,o2=some v->Internal.nz v=true)->ZipK ya (as.map .ref) (Ts.map trV) [some (fmV rules tabs C owed),some (.ref ya),some (q9 Ts),some (.ref fa),some (.ref ea),o1,o2] Y':=λhs hn q1 q2=>
  ⟨hs _ _ hy,λx hx=>by
   refine a9 (ai.mp hx) λc hc q1_=>?_;subst q1_
   refine a9 (pa.has hc) λz _ e=>?_
   exact⟨c,_,rfl,hs _ _ e⟩,hn,.some F.nz (.some rfl (.some M6 (.some rfl (.some rfl (.cons q1 (.cons q2 .nil))))))⟩
 k_extra "w";rename_i fa hfa ea hea;refine LoopZ.mk (as.map .ref) (by k_extra "heap") M6 (HsJ rules tabs rk Us Ts (fmV rules tabs C owed) (q9 Ts) ya fa Y) (λ_ k_=>k_ ea [] none none (λj u h=>absurd h (bW _)) ((Sub.upd hfa).trans (Sub.upd hea)) ((nz.upd rfl).upd rfl) (l5 (d3 _ _ _) hea) PAt.nil (d3 _ _ _) (λc hc=>(by cases hc)) (λv e=>(by cases e)) (λv e=>(by cases e)) rfl) ?_ ?_
 ·rintro i x y _ Y' hx hy' hh_;refine hh_ _ ?_;clear hh_;rintro ea cs o1 o2 g1 hs hn hf hP he hne q1 q2 rfl
  rw[aq] at hy';refine a9 (aA.mp hy') λT hT q1_=>?_;subst q1_
  have hi:i<Ts.length:=(aj.mp hT).1;have hU:Us[i]?=some (Us[i]'(lu▸hi)):=ae _;generalize Us[i]'_=u at hU;obtain⟨a,ha,hau⟩:=pa.get (j:=i) (x:=u.map A1) (by rw[aq,hU];rfl)
  obtain rfl:x=.ref a:=by rw[aq,ha] at hx;exact(Option.some.inj hx).symm
  have mu:=aD hU;have tC:=hC T (aD hT);refine⟨zk hs hn q1 q2,?_⟩;have hcl:(cs.map V.ref).length<=10000:=by rw[aa,hP.len,ad4];lia
  k_extra "w";refine cb0 (d:=d) N F (hs _ _ hau) (cl u mu _) (uz u mu) he (ae9 i) .tup (by lia) (λP hPp eT b hb=>?_) (λhPp Y' k=>h2 ⟨u,mu,hPp⟩ Y' (hs.trans k)) (λP hPp eT Y' _=>absurd tC eT)
  have eb:D8 rules ⟨P,eY rules tabs rk Us Ts i,T,tabs⟩ rk=eY rules tabs rk Us Ts (i+1):=by rw[ag0 hU hT,hPp];rfl
  rw[eb];have hbf:b≠fa:=(j5 hf hb).symm;have em:cs.map V.ref++[V.ref b]=(cs++[b]).map V.ref:=by rw[ak];rfl
  k_extra "w";rw[em];refine(λ_ k_=>k_ b (cs++[b]) _ _ (λj v hj hv=>?_) (λc o e=>?_) ((hn.upd aa0).upd R9) (d3 _ _ _) ?_ (by rw[d8 _ _ hbf];exact d3 _ _ _) (λc hc=>?_) (λv e=>(by cases e;rfl)) (λv e=>(by cases e;exact al6)) rfl)
  ·by_cases q:j=i
   ·subst q;rw[hU] at hv;cases hv;rw[hPp];exact λe=>by cases e
   ·exact g1 j v (by lia) hv
  ·rw[d8 _ _ (j5 e hfa)];exact Sub.upd hb _ _ (hs _ _ e)
  ·rw[aU2]
   exact(hP.stay ((d9.new hb).trans (d9.upd (by k_extra "mem"))) λc hc=>u1 (hne c hc)).snoc (by rw[d8 _ _ hbf];exact d3 _ _ _)
  ·rcases au.mp hc with q | q
   ·exact hne c q
   ·rw[ah.mp q];exact hbf
 ·rintro _ Y' hh_;refine hh_ _ ?_;clear hh_;rintro ea cs o1 o2 g1 hs hn hf hP he hne q1 q2 rfl
  rw[el] at g1 hP he;refine⟨zk hs hn q1 q2,?_⟩;k_extra "w";refine cc6 hf hP (by rw[hP.len,ad4];lia) hn (λY' c x yes no hx hc hk=>?_) λY'' b bs k1 k2 k3 k4=>d4 (h1 (λu hu=>?_) Y'' b bs (hs.trans k1) k2 k3 k4)
  ·refine c6 (bi6 hx) λj q1_=>?_;subst q1_
   have:((eY rules tabs rk Us Ts (j+1)).map V.int).length<=10000:=by rw[aa];have:=ak1 (ae9 (rules:=rules) (tabs:=tabs) (rk:=rk) (Us:=Us) (Ts:=Ts) (j+1)) F.l40;lia
   k_extra "w";exact hk _ (by assumption)
  ·obtain⟨j,hj,rfl⟩:=cq hu
   exact g1 j _ (by lia) (ae hj)
end
noncomputable def l7(T:List Bool):List V:=T.map .bool
theorem bB1{T:List Bool}:nzO (.lst (l7 T))=true:=w9 λx hx=>by refine a9 (ai.mp hx) λb z_ q1_=>?_;subst q1_;rfl
structure TrS(sx τ:Hp)(m:Addr)(ds:List Addr)(B:List (List Bool))(Y':Hp):Prop where
 hm:Y' m=some (.lst (ds.map .ref))
 hS:d9 [m] τ Y'
 hn:NZ Y'
 hP:PAt Y' ds (B.map l7)
 hne:∀ c∈ds,c≠m
 m0:sx m=none
 sb:Sub sx Y'
 fr:∀ c∈ds,sx c=none
theorem TrS.step{sx τ Y':Hp}{m x1 x2:Addr}{ds:List Addr}{B:List (List Bool)}{T:List Bool}{b:Bool}(S:TrS sx τ m ds B Y')(h1:Y' x1=none)(h2:upd Y' x1 (.lst [.bool b]) x2=none):TrS sx τ m (ds++[x2]) (B++[T++[b]]) (upd (upd (upd Y' x1 (.lst [.bool b])) x2 (.lst (l7 T++[.bool b]))) m (.lst (ds.map .ref++[.ref x2]))):=by
 have n2:x2≠m:=(j5 (l5 S.hm h1) h2).symm;have k:d9 [m] Y' (upd (upd (upd Y' x1 (.lst [.bool b])) x2 (.lst (l7 T++[.bool b]))) m (.lst (ds.map .ref++[.ref x2]))):=((d9.new h1).trans (d9.new h2)).trans (d9.upd (by k_extra "mem"))
 have eb:l7 (T++[b])=l7 T++[.bool b]:=by unfold l7;rw[ak];rfl
 have er:ds.map V.ref++[V.ref x2]=(ds++[x2]).map V.ref:=by rw[ak];rfl
 refine⟨by rw[er];exact d3 _ _ _,S.hS.trans k,((S.hn.upd rfl).upd (eb▸bB1)).upd (er▸R9),?_,λc hc=>?_,S.m0,λc o e=>k c o (u1 (j5 e S.m0)) (S.sb _ _ e),λc hc=>?_⟩
 ·rw[ak]
  exact(S.hP.stay k λc hc=>u1 (S.hne c hc)).snoc (by rw[d8 _ _ n2,eb];exact d3 _ _ _)
 ·rcases au.mp hc with q | q
  ·exact S.hne c q
  ·rw[ah.mp q];exact n2
 ·rcases au.mp hc with q | q
  ·exact S.fr c q
  ·rw[ah.mp q];exact S5 S.sb (j7 h2).2
def TrJ(sx τ:Hp)(f m:Addr)(n:V)(tn:Option V)(cs:List Addr)(A:List (List Bool))(rest:List V)(Z':Lo)(Y':Hp):Prop:=
 ∀ P_:Prop,(∀ (d1 d2 ds:List Addr) (B:List (List Bool)) (o:Option V) (e1:cs=d1++d2) (e2:rest=d2.map .ref) (e3:((A.take d1.length).map ab5).flatten=B) (S:TrS sx τ m ds B Y') (hz:ds.length<=2*d1.length) (e:Z'=[some n,some (.ref f),tn,some (.ref m),o]),P_)->P_
section
variable{g:G}{d:Nat}{Y:Hp}{Q:V->Hp->Prop}{X:Str->Hp->Prop}
set_option tactic.hygienic true in
theorem bk1(N:Nm g){n:Nat}(hz:n<=8)(nz:NZ Y)(h:∀ Y' f cs,Sub Y Y'->NZ Y'->Y f=none->Y' f=some (.lst (cs.map .ref))->PAt Y' cs ((s8 n).map l7)->(∀ e∈cs,Y e=none)->Q (.ref f) Y') :
  c7 g (d+1) true "truths_of" [.int n] Y Q X:=by
 refine bA1 N ?_;have k60:j4 (n:Int):=by unfold j4;lia
 k_extra "w";rename_i e0 he0 f0 hf0;refine C1 (λi Z' Y'=>∃ f cs o2 o3 o4,Sub Y Y'/\NZ Y'/\Y f=none/\Y' f=some (.lst (cs.map .ref))/\PAt Y' cs ((s8 i).map l7)/\(∀ e∈cs,Y e=none)/\Z'=[some (.int n),some (.ref f),o2,o3,o4]) ⟨f0,[e0],none,none,none,(Sub.upd he0).trans (Sub.upd hf0),(nz.upd rfl).upd rfl,(j7 hf0).2,d3 _ _ _,PAt.nil.snoc (l5 (d3 _ _ _) hf0),λe he=>(by rw[ah.mp he];exact he0),rfl⟩ (λR J hR hJ=>?_) ?_
 ·rintro i _ τ hi hh_;obtain⟨f,cs,o2,o3,o4,hs,hn,hf0,hf,hP,hfr,rfl⟩:=hh_
  have hcl:cs.length=2 ^ i:=by rw[hP.len];unfold s8;rw[aa,aa,aN]
  have hi8:2 ^ i<=256:=by
   have:i<=8:=by lia
   exact cj (n:=2) (by decide) this
  k_extra "w";rename_i m hm;have hfm:f≠m:=j5 hf hm;refine LoopR.held _ (l5 hf hm) (Loop.g (TrJ Y (upd τ m (.lst [])) f m (.int n) _ cs (s8 i)) (λ_ k_=>k_ [] cs [] [] o4 rfl rfl rfl ⟨d3 _ _ _,d9.refl,hn.upd rfl,PAt.nil,λc hc=>(by cases hc),S5 hs hm,hs.trans (Sub.upd hm),λc hc=>(by cases hc)⟩ (ay _) rfl) (λR2 J2 hR2 hJ2=>?_) ?_)
  ·rintro v rest _ Y' hh_;refine hh_ _ ?_;clear hh_;rintro d1 d2 ds B o e1 e2 e3 S hz' rfl
   have hS:=S.hS;have hm':=S.hm;refine⟨hS f _ (u1 hfm) (l5 hf hm),?_⟩;cases d2 with
   | nil=>cases e2
   | cons c d2=>
    refine c5 (List.cons.inj e2) λq1_ q2_=>?_;subst q1_;subst q2_
    have hc:cs[d1.length]?=some c:=by rw[e1,aS (aI _),cD];rfl
    have q:=(aj.mp hc).1;have q2:d1.length<(s8 i).length:=by have:=hP.len;rw[aa] at this;lia
    obtain⟨T,hT⟩:∃ T,(s8 i)[d1.length]?=some T:=⟨_,ae q2⟩;have hcT:Y' c=some (.lst (l7 T)):=by
     have h1:=hP.at' hc (show((s8 i).map l7)[d1.length]?=some (l7 T) by rw[aq,hT];rfl)
     exact hS c _ (u1 (j5 h1 hm)) (l5 h1 hm)
    have hTl:(l7 T).length<=10:=by
     refine a9 (ai.mp (aD hT)) λk _ q1_=>?_;subst q1_
     unfold l7;rw[aa,K4];lia
    have hcm:c≠m:=j5 (hP.at' hc (show((s8 i).map l7)[d1.length]?=some (l7 T) by rw[aq,hT];rfl)) hm
    have hdl:(ds.map V.ref).length<=1000:=by rw[aa];lia
    k_extra "w";rename_i x1 hx1 x2 hx2 x3 hx3 x4 hx4;have er:ds.map V.ref++[V.ref x2]=(ds++[x2]).map V.ref:=by rw[ak];rfl
    have S2:=(S.step (T:=T) hx1 hx2).step (T:=T) hx3 hx4;rw[<- er] at S2;refine hJ2 (λ_ k_=>k_ (d1++[c]) d2 (ds++[x2]++[x4]) (B++[T++[false]]++[T++[true]]) _ (by rw[e1,aF];rfl) rfl ?_ S2 (by rw[ar,ar,ar];show _+1+1<=2*(_+1);lia) rfl)
    rw[ar];show(((s8 i).take (d1.length+1)).map ab5).flatten=_;rw[bD,hT,ak,eQ,e3,aF];rfl
  ·rintro _ Y' hh_;refine hh_ _ ?_;clear hh_;rintro d1 d2 ds B o e1 e2 e3 S hz' rfl
   obtain⟨hm',hS,hn',hP',hne,m0,sb,fr⟩:=S;refine⟨hS f _ (u1 hfm) (l5 hf hm),?_⟩;obtain rfl:d2=[]:=by cases d2 with | nil=>rfl | cons _ _=>cases e2
   rw[aL] at e1;subst e1;have el:cs.length=(s8 i).length:=by rw[hP.len,aa]
   rw[el,bF,<- bB6] at e3;subst e3;k_extra "w";exact hJ ⟨m,ds,_,_,_,sb,hn',m0,hm',hP',fr,rfl⟩
 ·rintro _ τ hh_;obtain⟨f,cs,o2,o3,o4,hs,hn,hf0,hf,hP,hfr,rfl⟩:=hh_
  have e2:((n:Int)-0).toNat=n:=H6 _;rw[e2] at hP;k_extra "w";exact d4 (h τ f cs hs hn hf0 hf hP hfr)
theorem ar5{T:List Bool}{c m i:Nat}(hT:T.length=c*m)(hi:i<m):i*c+c<=T.length:=by
 rw[hT,dM c m,<- Nat.succ_mul];exact Nat.mul_le_mul_right c hi
set_option tactic.hygienic true in
theorem aV9(N:Nm g){ta:Addr}{T:List Bool}{c m:Nat}(ht:Y ta=some (.lst (l7 T)))(hT:T.length=c*m)(hz:T.length<=100)(hc:c<=8)(hm:m<=100)(h:Q (q9 (A9 c m T)) Y):c7 g (d+1) true "rows_of" [.ref ta,.int c,.int m] Y Q X:=by
 refine ci8 N ?_;have k60:j4 (c:Int):=by unfold j4;lia
 have m60:j4 (m:Int):=by unfold j4;lia
 have hl:(l7 T).length<=10000:=by unfold l7;rw[aa];lia
 k_extra "w";refine O1 (λi acc Y'=>Sub Y Y'/\acc=((List.range i).map λk=>(T.drop (k*c)).take c).map trV) (by lia) ⟨Sub.refl _,rfl⟩ (λJ hJ=>?_) ?_
 ·rintro i acc Y' hi hh_;refine c5 hh_ λhs q1_=>?_;clear hh_;subst q1_
  have e0:(0:Int)+(i:Int)=i:=bI _;rw[e0];have ht':=hs _ _ ht;have es:slc (some ((i:Int)*c)) (some (((i:Int)+1)*c)) (l7 T)=l7 ((T.drop (i*c)).take c):=by
   have:=aq9 (T:=T) (a:=i*c) (c:=c) (ar5 hT (by lia))
   rw[bC] at this;rw[Int.add_mul,Int.one_mul];exact this
  have hl2:(l7 ((T.drop (i*c)).take c)).length<=10000:=by unfold l7;rw[aa];exact al (eR _ _) (by lia)
  k_extra "w";rename_i b hb;rw[es] at *;k_extra "w";exact hJ ⟨hs.trans (Sub.upd hb),by rw[bn,ak,ak];rfl⟩
 ·rintro acc Y' ⟨hs,rfl⟩ b hb
  have e2:((m:Int)-0).toNat=m:=H6 _;rw[e2];have hl3:(((List.range m).map λk=>(T.drop (k*c)).take c).map trV).length<=10000:=by rw[aa,aa,aN];lia
  k_extra "w";exact m9 (hs.trans (Sub.upd hb)) h
end
structure Tp(rules:List V)(F:List Int):Prop where
 nd:F.Nodup
 rg:∀ x∈F,0<=x/\x<rules.length
 nm:∀ {done todo:List Int} {i:Nat},F=done++(i:Int)::todo->Nms (·∈done) 8 (rules.getD i .none)
theorem Tp.snoc{rules:List V}{F:List Int}{k:Nat}(h:Tp rules F)(hk:k<rules.length)(hn:(k:Int)∉F)(hm:Nms (·∈F) 8 (rules.getD k .none)):Tp rules (F++[(k:Int)]):=by
 refine⟨aV.mpr ⟨h.nd,by simp,λx hx y hy q=>?_⟩,λx hx=>?_,fun{done todo i} e=>?_⟩
 ·rw[ah.mp hy] at q;exact hn (q▸hx)
 ·rcases au.mp hx with q | q
  ·exact h.rg x q
  ·rw[ah.mp q];exact⟨aJ _,cC.mpr hk⟩
 ·rcases eC todo with rfl | ⟨todo',t,rfl⟩
  ·refine c5 (cL e rfl) λq1_ e2=>?_;subst q1_
   obtain rfl:k=i:=Int.ofNat.inj (List.cons.inj e2).1;exact hm
  ·rw[eD,<- List.cons_append,<- aF] at e
   exact h.nm (cL e rfl).1
theorem bg8{d:Nat}{T:List Int}{Y:Hp}{Q:VP}(h:Q (.bool T.isEmpty) Y):EqL false (d+1) (T.map .int) [] Y Q:=by
 refine EqL.mk (Fl.ints (l:=T)).fl rfl (al (bG (bP _ _)) (al (by decide) (bS 8 (aP 1 d)))) ?_
 cases T with
 | nil=>exact h
 | cons _ _=>exact h
theorem bM2{L:List V}(h:∀ y∈L,∃ j,y=V.int j):∃ l:List Int,L=l.map .int:=by
 induction L with
 | nil=>exact⟨[],rfl⟩
 | cons x L ih=>
  refine c6 (h x (.head _)) λj q1_=>?_;subst q1_
  obtain⟨l,rfl⟩:=ih λy hy=>h y (.tail _ hy)
  exact⟨j::l,rfl⟩
theorem aU0{z:Lim}{rules:List V}{rk:Int->Nat}(h:Lnk z rules rk){F:List Int}(hF:F.length<rules.length):∃ i,i<rules.length/\(i:Int)∉F/\Nms (·∈F) 8 (rules.getD i .none):=by
 have key:∀ (k:Nat) (i:Nat),i<rules.length->(i:Int)∉F->rk i=k->∃ j,j<rules.length/\(j:Int)∉F/\Nms (·∈F) 8 (rules.getD j .none):=by
  intro k;induction k using cV with
  | ind k ih=>
   intro i hi hiF hk;by_cases q:Nms (·∈F) 8 (rules.getD i .none)
   ·exact⟨i,hi,hiF,q⟩
   ·refine c6 (Classical.not_forall.mp q) λj hj=>?_
    refine c5 (Classical.not_imp.mp hj) λhj hjF=>?_
    obtain⟨⟨j0,j1⟩,jd⟩:=h.dn i hi j hj;have e:((j.toNat:Nat):Int)=j:=bu j0;exact ih (rk j) (hk▸jd) j.toNat (by lia) (by rw[e];exact hjF) (by rw[e])
 have ex:∃ i,i<rules.length/\((i:Nat):Int)∉F:=ba λhno=>by
  have hall:∀ i,i<rules.length->(i:Int)∈F:=λi hi=>ba λq=>hno ⟨i,hi,q⟩
  have:=F6 (l:=(List.range rules.length).map fun(i:Nat)=>V.int i) (k:=F.map .int) (List.Pairwise.map _ (λa b hab e=>hab (Int.ofNat.inj (V.int.inj e))) dJ) λy hy=>by
   refine a9 (ai.mp hy) λi hi q1_=>?_;subst q1_
   exact ai.mpr ⟨_,hall i (bc.mp hi),rfl⟩
  rw[aa,aa,aN] at this;exact bE _ (aY hF this)
 refine a9 ex λi hi hiF=>?_
 exact key _ i hi hiF rfl
def RwJ(rules:List V)(F0:List Int)(w:Nat)(r:Addr)(Y:Hp)(i:Nat)(Z':Lo)(Y':Hp):Prop:=
 ∀ P_:Prop,(∀ (F G:List Int) (o2 o3:Option V) (e1:F=F0++G) (hT:Tp rules F) (hw:w<i->(w:Int)∈F) (hS:d9 [r] Y Y') (hr:Y' r=some (.lst (F.map .int))) (e3:Z'=[some (.tup rules),some (.ref r),o2,o3]),P_)->P_
section
variable{g:G}{d:Nat}{Y:Hp}{Q:V->Hp->Prop}{X:Str->Hp->Prop}
set_option tactic.hygienic true in
theorem bh3(N:Nm g){rules tabs:List V}{C owed:Int}{rk:Int->Nat}(F:FG rules tabs C owed rk)
  (h:∀ r O,Y r=none->Tp rules O->O.length=rules.length->Q (.ref r) (upd Y r (.lst (O.map .int)))):c7 g (d+12) true "_law_row" [.tup rules] Y Q X:=by
 refine bG2 N ?_;have l40:=F.l40;have FF:=F.form;k_extra "w";rename_i r hr;refine Whl.g (λm Z' Y'=>∃ (O:List Int) (o2 o3:Option V),Tp rules O/\m=rules.length-O.length/\d9 [r] (upd Y r (.lst [])) Y'/\Y' r=some (.lst (O.map .int))/\Z'=[some (.tup rules),some (.ref r),o2,o3]) (rules.length-0)
  ⟨[],none,none,⟨.nil,λx hx=>(by cases hx),fun{done todo i} e=>(by cases done<;>cases e)⟩,rfl,d9.refl,d3 _ _ _,rfl⟩ λR J hR hJ=>?_
 rintro m _ Y' hh_;refine I5 hh_ λO o2 o3 hO q1_ hS hr' q2_=>?_;clear hh_;subst q1_;subst q2_
 have hOl:(O.map V.int).length=O.length:=aa _;have hOz:=J0 hO.nd hO.rg;have hOz':(O.map V.int).length<=10000:=by lia
 k_extra "w"
 ·rename_i hlt
  have hlt:O.length<rules.length:=by lia
  refine i8 (aU0 F.lnk hlt) λw hw hwO hwN=>?_
  refine C1 (RwJ rules O w r Y') (λ_ k_=>k_ O [] o2 o3 ((aL _).symm) hO (λq=>absurd q (bW _)) d9.refl hr' rfl) (λR2 J2 hR2 hJ2=>?_) ?_
  ·rintro i _ Y3 hi hh_;refine hh_ _ ?_;clear hh_;rintro F1 G o2 o3 e1 hT hw' hS3 hr3 rfl
   have e0:(0:Int)+(i:Int)=i:=bI _;rw[e0];have hi':i<rules.length:=by lia
   have hF1:=J0 hT.nd hT.rg;have hF1l:(F1.map V.int).length<=10000:=by rw[aa];lia
   k_extra "w";refine L3 i _ rfl (C0 (x:=.none) hi') (by lia) ?_
   have RO:=FF.rule _ (aD (C0 (x:=.none) hi'));refine bM0 (d:=d+1) N (z:=⟨rules.length,tabs.length,C⟩) (by constructor;rfl) 8 RO.ok (RO.few _) λe L he hSr hm=>?_
   obtain⟨l,rfl⟩:∃ l:List Int,L=l.map .int:=bM2 λy hy=>by
    refine a9 ((F.gr i _ (C0 (x:=.none) hi')).line_see y ((hm y).mp hy)) λj ej _=>?_
    exact⟨j,ej⟩
   have hll:=F6 hSr.nodup λy hy=>(hm y).mp hy
   have hfew:=RO.few (Str.ofString "line");have hre:r≠e:=j5 hr3 he;have hNm:Nms (·∈F1) 8 (rules.getD i .none)↔(l.filter λj=>!decide (j∈F1))=[]:=by
    rw[List.filter_eq_nil_iff];constructor
    ·intro q j hj
     have:=q j ((hm _).mp (ai.mpr ⟨j,hj,rfl⟩));simp[this]
    ·intro q j hj
     refine a9 (ai.mp ((hm _).mpr hj)) λk hk ek=>?_
     have:=q k hk;rw[<- V.int.inj ek]
     simpa using this
   refine Look.mk _ (d3 _ _ _) ?_;refine CLoop.g (λrest acc Y4=>upd Y3 e (.lst (l.map .int))=Y4/\∃ done todo:List Int,l=done++todo/\rest=todo.map .int/\acc=(done.filter λj=>!decide (j∈F1)).map V.int) (by lia) ⟨rfl,[],l,rfl,rfl,rfl⟩ (λJ3 hJ3=>?_) ?_
   ·rintro v rest acc _ hh_;obtain⟨rfl,done,todo,e4,e5,rfl⟩:=hh_
    refine⟨d3 _ _ _,?_⟩;cases todo with
    | nil=>cases e5
    | cons j todo=>
     refine c5 (List.cons.inj e5) λe6 q1_=>?_;subst q1_
     subst e6;k_extra "w";refine ag4 ?_;k_extra "w";all_goals
      rename_i q;exact hJ3 ⟨rfl,done++[j],todo,by rw[e4,aF];rfl,rfl,by rw[dk];simp[q]⟩
   ·rintro acc _ hh_;obtain⟨rfl,done,todo,e4,e5,rfl⟩:=hh_
    obtain rfl:todo=[]:=by cases todo with | nil=>rfl | cons _ _=>cases e5
    rw[aL] at e4;subst e4;refine⟨d3 _ _ _,λa ha=>?_⟩
    have hra:r≠a:=j5 (l5 hr3 he) ha;k_extra "w";refine ag4 ?_;k_extra "w"
    ·rename_i qi
     refine hJ2 (λ_ k_=>k_ F1 G _ _ e1 hT (λq=>?_) (hS3.trans ((d9.new he).trans (d9.new ha))) (by k_extra "heap") rfl)
     by_cases q2:w=i
     ·rw[q2];exact qi
     ·exact hw' (by lia)
    ·rename_i qi b hb
     have hrb:r≠b:=j5 (l5 (l5 hr3 he) ha) hb;have k3:=hS3.trans (((d9.new (x:=.lst (l.map .int)) he).trans (d9.new (x:=.lst ((l.filter λj=>!decide (j∈F1)).map .int)) ha)).trans (d9.new (x:=.lst []) hb))
     refine bg8 ?_;cases hf:(l.filter λj=>!decide (j∈F1)).isEmpty with
     | true=>
      k_extra "w";refine hJ2 (λ_ k_=>k_ (F1++[(i:Int)]) (G++[(i:Int)]) _ _ (by rw[e1,aF]) (hT.snoc hi' qi (hNm.mpr (aH.mp hf))) (λq=>?_) (k3.trans (d9.upd (by k_extra "mem"))) (by rw[d3,ak];rfl) rfl)
      by_cases q2:w=i
      ·rw[q2];simp
      ·exact eJ _ (hw' (by lia))
     | false=>
      k_extra "w";refine hJ2 (λ_ k_=>k_ F1 G _ _ e1 hT (λq=>?_) k3 (by k_extra "heap") rfl)
      by_cases q2:w=i
      ·have:(l.filter λj=>!decide (j∈F1))=[]:=hNm.mp (q2▸λj hj=>e1▸eJ _ (hwN j hj))
       rw[this] at hf;cases hf
      ·exact hw' (by lia)
  ·rintro _ Y3 hh_;refine hh_ _ ?_;clear hh_;rintro F1 G o2 o3 e1 hT hw' hS3 hr3 rfl
   have e2:((rules.length:Int)-0).toNat=rules.length:=H6 _;rw[e2] at hw';have hin:=hw' hw;have hF1:=J0 hT.nd hT.rg;have hlen:O.length<F1.length:=by
    cases G with
    | nil=>rw[aL] at e1;rw[e1] at hin;exact absurd hin hwO
    | cons x G=>rw[e1,ar,az];lia
   exact hJ ⟨_,by lia,F1,o2,o3,hT,rfl,hS.trans hS3,hr3,rfl⟩
 ·rename_i hlt
  have hle:O.length=rules.length:=by lia
  refine hR ?_;k_extra "w";refine m9 (Y':=upd Y r (.lst (O.map .int))) (λa o e=>?_) (h r O hr hO hle)
  by_cases q:a=r
  ·rw[q,d3] at e;rw[q,hr'];exact e
  ·rw[d8 _ _ q] at e;exact hS a o (u1 q) (l5 e hr)
end
def LkJ(rules:List V)(y:Yr)(rk:Int->Nat)(O:List Int)(τ:Hp)(la:Addr)(v0 v1 v2 v3 v4 v6:V)(rest:List V)(Z':Lo)(Y':Hp):Prop:=
 ∀ P_:Prop,(∀ (done todo Ls:List Int) (o:Option V) (e1:O=done++todo) (e2:rest=todo.map .int) (hl:Ls.length=rules.length) (hd:∀ i:Nat,(i:Int)∈done->Ls.getD i 0=sol rules y rk i) (e3:Y'=upd τ la (.lst (Ls.map .int))) (e:Z'=[some v0,some v1,some v2,some v3,some v4,some (.ref la),some v6,o]),P_)->P_
section
variable{g:G}{d:Nat}{Y:Hp}{Q:V->Hp->Prop}{X:Str->Hp->Prop}{rules tabs:List V}{C owed:Int}{rk:Int->Nat}
set_option tactic.hygienic true in
theorem bf8(N:Nm g)(F:FG rules tabs C owed rk){ra pa ea:Addr}{O E:List Int}{P:List (Str×Int)}{T:List Bool}(hra:Y ra=some (.lst (O.map .int)))(hO:Tp rules O)(hOl:O.length=rules.length)(hpa:Y pa=some (.lst ((g9 P).map A1)))(gp:GP P)(pz:P.length<=100)
  (he:Y ea=some (.lst (E.map .int))) (ez:E=[]∨E.length=rules.length) (hT:(T.length:Int)=C) (h:∀ b,Y b=none->Q (.ref b) (upd Y b (.lst ((D8 rules ⟨P,E,T,tabs⟩ rk).map .int)))) :
  c7 g (d+11) true "_law_reckoned" [fmV rules tabs C owed,.ref ra,.ref pa,.ref ea,trV T] Y Q X:=by
 refine bQ1 N ?_;have l40:=F.l40;have c8:=F.c8;have hOz:(O.map V.int).length=rules.length:=by rw[aa,hOl]
 have hOz':(O.map V.int).length<=10000:=by lia
 have hPl:(dS P).length=P.length:=aa _;k_extra "w";rename_i t ht la hla;have er:(List.replicate ((O.map V.int).length:Int).toNat [V.int 0]).flatten=(List.replicate rules.length (0:Int)).map V.int:=by rw[hOz,bL,cK,List.map_replicate]
 rw[er];have hs:Sub Y (upd Y t (.lst [.int 0])):=Sub.upd ht;generalize upd Y t (.lst [.int 0])=τ at hs hla ⊢;have n1:ra≠la:=j5 (hs _ _ hra) hla;refine LoopR.held _ (l5 (hs _ _ hra) hla) (Loop.g (LkJ rules ⟨P,E,T,tabs⟩ rk O τ la (fmV rules tabs C owed) (.ref ra) (.ref pa) (.ref ea) (trV T) (.tup [.ref la,.ref pa,.ref ea,.tup tabs,trV T])) (λ_ k_=>k_ [] O _ none rfl rfl bY (λi hi=>(by cases hi)) rfl rfl) (λR J hR hJ=>?_) ?_)
 ·rintro v rest _ _ hh_;refine hh_ _ ?_;clear hh_;rintro done todo Ls o e1 e2 hl hd rfl rfl
  refine⟨l5 (hs _ _ hra) hla,?_⟩;cases todo with
  | nil=>cases e2
  | cons x todo=>
   refine c5 (List.cons.inj e2) λe3 q1_=>?_;subst q1_
   subst e3;obtain⟨x0,x1⟩:=hO.rg x (by rw[e1];simp)
   refine c6 (aT x0) λi q1_=>?_;subst q1_
   have hi:i<rules.length:=by lia
   have hLl:(Ls.map V.int).length=rules.length:=by rw[aa,hl]
   k_extra "w";refine L3 i _ rfl (C0 (x:=.none) hi) (by lia) ?_
   refine bE5 (d:=d) (Ls:=Ls) (y:=⟨P,E,T,tabs⟩) (z:=⟨rules.length,tabs.length,C⟩) N ⟨d3 _ _ _,by rw[ay8];exact l5 (hs _ _ hpa) hla,gp.nd,by lia,l5 (hs _ _ he) hla,.tup,by lia,ak1 ez l40,hT,rfl,by show T.length<=100;lia,al F.t5 (by decide),λt ht=>(F.tab t ht).1⟩ 8 (F.lnk.ok i hi) ?_
   have e:wv ⟨P,E,T,tabs⟩ (λi=>Ls.getD i.toNat 0) 8 (rules.getD i .none)=sol rules ⟨P,E,T,tabs⟩ rk i:=by
    rw[<- ao2 F.lnk hi];refine ad9 (F.lnk.ok i hi) λj hj=>?_
    obtain⟨⟨j0,j1⟩,-⟩:=F.lnk.dn i hi j hj;have hjd:=hO.nm e1 j hj;have ej:((j.toNat:Nat):Int)=j:=bu j0;rw[hd j.toNat (by rw[ej];exact hjd),ej]
   rw[e];k_extra "w";refine hJ (λ_ k_=>k_ (done++[(i:Int)]) todo (Ls.set i (sol rules ⟨P,E,T,tabs⟩ rk i)) _ (by rw[e1,aF];rfl) rfl (by rw[bt,hl]) (λk hk=>?_) (by rw[eZ];rfl) rfl)
   rw[aw,du];by_cases q:i=k
   ·rw[if_pos q,if_pos (by lia),<- q];rfl
   ·rw[if_neg q,<- aw]
    rcases au.mp hk with q2 | q2
    ·exact hd k q2
    ·exact absurd (Int.ofNat.inj (ah.mp q2)).symm q
 ·rintro _ _ hh_;refine hh_ _ ?_;clear hh_;rintro done todo Ls o e1 e2 hl hd rfl rfl
  refine⟨l5 (hs _ _ hra) hla,?_⟩;obtain rfl:todo=[]:=by cases todo with | nil=>rfl | cons _ _=>cases e2
  rw[aL] at e1;subst e1;have hLs:Ls=D8 rules ⟨P,E,T,tabs⟩ rk:=by
   refine List.ext_getElem? λk=>?_
   by_cases q:k<rules.length
   ·have hk:=hd k (an1 hOl hO.nd hO.rg q)
    rw[aw,ae (by lia)] at hk
    unfold D8;rw[ae (by lia),aq,eL q]
    exact congrArg some hk
   ·rw[bK (by lia),bK (by rw[T7];lia)]
  subst hLs;k_extra "w";exact m9 (D7 hs) (h la (S5 hs hla))
end
def LsJ(rules tabs:List V)(rk:Int->Nat)(owed:Int)(Us:List (List (V×V)))(Ts:List (List Bool))(v0 v1 v2 v3:V)(Y:Hp)(i:Nat)(Z':Lo)(Y':Hp):Prop:=
 ∀ P_:Prop,(∀ (ea:Addr) (o6 o7:Option V) (hs:Sub Y Y') (hn:NZ Y') (he:Y' ea=some (.lst ((eY rules tabs rk Us Ts i).map .int))) (q6:∀ v,o6=some v->nz v=true) (q7:∀ v,o7=some v->nz v=true)
  (e:Z'=[some v0,some v1,some v2,some v3,some (.int ((List.range i).map λj=>(eY rules tabs rk Us Ts (j+1)).getD owed.toNat 0).sum),some (.ref ea),o6,o7]),P_)->P_
theorem bo1{a:Nat}:((a:Int)%2==1)=(a%2==1):=by
 rw[cS,beq_iff_eq,beq_iff_eq];exact⟨λh=>Int.ofNat.inj h,λh=>congrArg Int.ofNat h⟩
section
variable{g:G}{d:Nat}{Y:Hp}{Q:V->Hp->Prop}{X:Str->Hp->Prop}{rules tabs:List V}{C owed:Int}{rk:Int->Nat}{ya:Addr}{as:List Addr}{Ps:List (List (Str×Int))}
set_option tactic.hygienic true in
theorem bQ5(N:Nm g)(F:FG rules tabs C owed rk){ra:Addr}{O:List Int}{Ts:List (List Bool)}(H:HIn Y ya as (Ps.map g9))(gp:∀ P∈Ps,GP P)(pz:∀ P∈Ps,P.length<=100)(hra:Y ra=some (.lst (O.map .int)))(hO:Tp rules O)(hOl:O.length=rules.length)(lu:Ps.length=Ts.length)(hC:∀ T∈Ts,(T.length:Int)=C)(nz:NZ Y)
  (h:Q (.int (ab0 rules tabs rk owed (Ps.map g9) Ts)) Y):c7 g (d+12) true "_law_sum" [fmV rules tabs C owed,.ref ra,.ref ya,q9 Ts] Y Q X:=by
 refine by5 N ?_;have o0:=F.o0;have o1:=F.o1;have l40:=F.l40;have hy:=H.hy;have pa:=H.pa;have la:as.length=Ts.length:=by rw[pa.len,aa,aa,lu]
 have el:min (as.map V.ref).length (Ts.map trV).length=Ts.length:=by rw[aa,aa,la,cW]
 have zk:∀ {Y':Hp} {ea:Addr} {n:Int} {o6 o7:Option V},Sub Y Y'->NZ Y'->(∀ v,o6=some v->Internal.nz v=true)->(∀ v,o7=some v->Internal.nz v=true)->ZipK ya (as.map .ref) (Ts.map trV) [some (fmV rules tabs C owed),some (.ref ra),some (.ref ya),some (q9 Ts),some (.int n),some (.ref ea),o6,o7] Y':=λhs hn q1 q2=>
  ⟨hs _ _ hy,λx hx=>by
   refine a9 (ai.mp hx) λc hc q1_=>?_;subst q1_
   refine a9 (pa.has hc) λz _ e=>?_
   exact⟨c,_,rfl,hs _ _ e⟩,hn,.some F.nz (.some rfl (.some rfl (.some M6 (.some rfl (.some rfl (.cons q1 (.cons q2 .nil)))))))⟩
 k_extra "w";rename_i ea hea;refine LoopZ.mk (as.map .ref) (by k_extra "heap") M6 (LsJ rules tabs rk owed (Ps.map g9) Ts (fmV rules tabs C owed) (.ref ra) (.ref ya) (q9 Ts) Y) (λ_ k_=>k_ ea none none (Sub.upd hea) (nz.upd rfl) (d3 _ _ _) (λv e=>(by cases e)) (λv e=>(by cases e)) rfl) ?_ ?_
 ·rintro i x y _ Y' hx hy' hh_;refine hh_ _ ?_;clear hh_;rintro ea o6 o7 hs hn he q6 q7 rfl
  rw[aq] at hy';refine a9 (aA.mp hy') λT hT q1_=>?_;subst q1_
  have hi:i<Ts.length:=(aj.mp hT).1;have hU:Ps[i]?=some (Ps[i]'(lu▸hi)):=ae _;generalize Ps[i]'_=P at hU;have mP:=aD hU;have hU':(Ps.map g9)[i]?=some (g9 P):=by rw[aq,hU];rfl
  obtain⟨a,ha,hau⟩:=pa.get (j:=i) (x:=(g9 P).map A1) (by rw[aq,hU'];rfl)
  obtain rfl:x=.ref a:=by rw[aq,ha] at hx;exact(Option.some.inj hx).symm
  refine⟨zk hs hn q6 q7,?_⟩;k_extra "w";refine bf8 (d:=d) N F (hs _ _ hra) hO hOl (hs _ _ hau) (gp P mP) (pz P mP) he (ae9 i) (hC T (aD hT)) λb hb=>?_
  have eb:D8 rules ⟨P,eY rules tabs rk (Ps.map g9) Ts i,T,tabs⟩ rk=eY rules tabs rk (Ps.map g9) Ts (i+1):=by rw[ag0 hU' hT,(gp P mP).papF];rfl
  rw[eb];have hel:(eY rules tabs rk (Ps.map g9) Ts (i+1)).length=rules.length:=by rw[<- eb,T7]
  have hel':((eY rules tabs rk (Ps.map g9) Ts (i+1)).map V.int).length=rules.length:=by rw[aa,hel]
  k_extra "w";refine Idx.mk o0 (by lia) (by lia) λz hz=>?_
  rw[ao1 hz];k_extra "w";exact(λ_ k_=>k_ b (some (.ref a)) (some (trV T)) (hs.trans (Sub.upd hb)) (hn.upd aa0) (d3 _ _ _) (λv e=>(by cases e;rfl)) (λv e=>(by cases e;exact al6)) (by rw[bn,ak,List.sum_append];simp))
 ·rintro _ Y' hh_;refine hh_ _ ?_;clear hh_;rintro ea o6 o7 hs hn he q6 q7 rfl
  refine⟨zk hs hn q6 q7,?_⟩;k_extra "w";rw[el];exact m9 hs h
set_option tactic.hygienic true in
theorem bC4(N:Nm g){k c m:Nat}(hc:c<=8)(hm:m<=100)(hcm:c*m<=8)(h:Q (q9 (A9 c m (w6 (c*m) k))) Y):c7 g (d+1) true "_law_choices" [.int k,.int c,.int m] Y Q X:=by
 refine bc1 N ?_;have c60:j4 (c:Int):=by unfold j4;lia
 have m60:j4 (m:Int):=by unfold j4;lia
 have ecm:(c:Int)*(m:Int)=((c*m:Nat):Int):=(bC c m).symm;have cm60:j4 ((c:Int)*(m:Int)):=by rw[ecm];unfold j4;lia
 k_extra "w";rename_i t0 ht0;have e2:((c:Int)*(m:Int)-0).toNat=c*m:=by rw[ecm];exact H6 _
 refine C1 (λi Z' Y'=>∃ t o4,Sub Y Y'/\Y' t=some (.lst (l7 (H1 i k)))/\Z'=[some (.int ((k / 2 ^ i:Nat):Int)),some (.int c),some (.int m),some (.ref t),o4]) ⟨t0,none,Sub.upd ht0,d3 _ _ _,by rw[Nat.pow_zero,Nat.div_one];rfl⟩ (λR J hR hJ=>?_) ?_
 ·rintro i _ Y' hi hh_;refine g7 hh_ λt o4 hs ht q1_=>?_;clear hh_;subst q1_
  have hl:(l7 (H1 i k)).length<=100:=by rw[aN4];unfold l7;rw[aa,K4];rw[ecm] at hi;lia
  k_extra "w";rename_i x1 hx1 x2 hx2;refine hJ ⟨x2,some (.int (0+i)),hs.trans ((Sub.upd hx1).trans (Sub.upd hx2)),?_,?_⟩
  ·rw[d3,bo1];rfl
  ·rw[show((k / 2 ^ i:Nat):Int) / 2=((k / 2 ^ (i+1):Nat):Int) by rw[dL,<- ew];lia];rfl
 ·rintro _ Y' hh_;refine g7 hh_ λt o4 hs ht q1_=>?_;clear hh_;subst q1_
  rw[e2,aN4] at ht;have hT:=K4 (c*m) k;generalize w6 (c*m) k=T at ht hT h;have hl:(l7 T).length<=10000:=by unfold l7;rw[aa];lia
  k_extra "w";refine O1 (λi acc Y2=>Sub Y' Y2/\acc=((List.range i).map λk=>(T.drop (k*c)).take c).map trV) (by lia) ⟨Sub.refl _,rfl⟩ (λJ hJ=>?_) ?_
  ·rintro i acc Y2 hi hh_;refine c5 hh_ λhs2 q1_=>?_;clear hh_;subst q1_
   have e0:(0:Int)+(i:Int)=i:=bI _;rw[e0];have ht':=hs2 _ _ ht;have es:slc (some ((i:Int)*c)) (some ((i:Int)*c+c)) (l7 T)=l7 ((T.drop (i*c)).take c):=by
    have:=aq9 (T:=T) (a:=i*c) (c:=c) (ar5 hT (by lia))
    rw[bC] at this;exact this
   have hl2:(l7 ((T.drop (i*c)).take c)).length<=10000:=by unfold l7;rw[aa];exact al (eR _ _) (by lia)
   k_extra "w";rename_i b hb;rw[es] at *;k_extra "w";exact hJ ⟨hs2.trans (Sub.upd hb),by rw[bn,ak,ak];rfl⟩
  ·rintro acc Y2 ⟨hs2,rfl⟩ b hb
   have e3:((m:Int)-0).toNat=m:=H6 _;rw[e3];have hl3:(((List.range m).map λk=>(T.drop (k*c)).take c).map trV).length<=10000:=by rw[aa,aa,aN];lia
   k_extra "w";exact m9 ((hs.trans hs2).trans (Sub.upd hb)) h
end
def AlJ(rules tabs:List V)(rk:Int->Nat)(owed:Int)(c:Nat)(Us:List (List (V×V)))(τ:Hp)(fa:Addr)(v0 v1 v2 v4:V)(o5:Option V)(i:Nat)(Z':Lo)(Y':Hp):Prop:=
 ∀ P_:Prop,(∀ (o6 o7:Option V) (hS:d9 [fa] τ Y') (hn:NZ Y') (hf:Y' fa=some (.lst ((List.range i).map λk=>E0 rules tabs rk owed c Us (w6 (c*Us.length) k)))) (e:Z'=[some v0,some v1,some v2,some (.ref fa),some v4,o5,o6,o7]),P_)->P_
theorem W9{rules tabs:List V}{rk:Int->Nat}{owed:Int}{c:Nat}{Us:List (List (V×V))}{T:List Bool}:nz (E0 rules tabs rk owed c Us T)=true:=G2 rfl (by
 show(nz (q9 _)&&(true&&true))=true;rw[M6];rfl)
section
variable{g:G}{d:Nat}{Y:Hp}{Q:V->Hp->Prop}{X:Str->Hp->Prop}{rules tabs:List V}{owed:Int}{rk:Int->Nat}{ya:Addr}{as:List Addr}{Ps:List (List (Str×Int))}{c:Nat}
theorem bp7(N:Nm g)(F:FG rules tabs c owed rk){ra fa:Addr}{O:List Int}{k:Nat}{L:List V}{o4 o5 o7:Option V}{QQ:d6}{XX:j3}(H:HIn Y ya as (Ps.map g9))(gp:∀ P∈Ps,GP P)(pz:∀ P∈Ps,P.length<=100)(hra:Y ra=some (.lst (O.map .int)))(hO:Tp rules O)(hOl:O.length=rules.length)(nz:NZ Y)(hcm:c*Ps.length<=8)
  (hf:Y fa=some (.lst L)) (hL:L.length<=1000)
  (h:QQ .next [some (fmV rules tabs c owed),some (.ref ya),some (.ref ra),some (.ref fa),o4,o5,some (.int k),some (q9 (A9 c Ps.length (w6 (c*Ps.length) k)))] (upd Y fa (.lst (L++[E0 rules tabs rk owed c (Ps.map g9) (w6 (c*Ps.length) k)])))) :
  wSs g (d+13) true ax3 [some (fmV rules tabs c owed),some (.ref ya),some (.ref ra),some (.ref fa),o4,o5,some (.int k),o7] Y QQ XX:=by
 have c8:=F.c8;have hy:=H.hy;have zz:=H.zz;rw[aa] at zz;have hal:(as.map V.ref).length=Ps.length:=by rw[aa,H.pa.len,aa,aa]
 have hal':(as.map V.ref).length<=10000:=by lia
 have el:(Ps.map g9).length=Ps.length:=aa _;k_extra "w";rw[hal];refine bC4 (d:=d+12) N (by lia) zz hcm ?_
 k_extra "w";refine bQ5 (d:=d+1) N F H gp pz hra hO hOl T1.symm (λT hT=>by rw[al7 (K4 _ _) T hT]) nz ?_
 k_extra "w";unfold E0 at h;rw[el] at h;exact h
set_option tactic.hygienic true in
theorem bf9(N:Nm g)(F:FG rules tabs c owed rk)(H:HIn Y ya as (Ps.map g9))(gp:∀ P∈Ps,GP P)(pz:∀ P∈Ps,P.length<=100)(nz:NZ Y)(hcm:c*Ps.length<=8)
  (h:∀ Y' b,Sub Y Y'->NZ Y'->Y b=none->Y' b=some (.lst (s6 rules tabs rk owed c (Ps.map g9)))->Q (.ref b) Y'):c7 g (d+14) true "_law_all" [fmV rules tabs c owed,.ref ya] Y Q X:=by
 refine bg6 N ?_;have c8:=F.c8;have hy:=H.hy;have zz:=H.zz;rw[aa] at zz;have hal:(as.map V.ref).length=Ps.length:=by rw[aa,H.pa.len,aa,aa]
 have hal':(as.map V.ref).length<=10000:=by lia
 have c60:j4 (c:Int):=by unfold j4;lia
 have ecm:(c:Int)*((as.map V.ref).length:Int)=((c*Ps.length:Nat):Int):=by rw[hal];exact(bC _ _).symm
 have cm60:j4 ((c:Int)*((as.map V.ref).length:Int)):=by rw[ecm];unfold j4;lia
 k_extra "w";refine bh3 (d:=d+1) N F λra O hra hO hOl=>?_
 k_extra "w";rename_i fa hfa;have hra':upd (upd Y ra (.lst (O.map .int))) fa (.lst []) ra=some (.lst (O.map .int)):=l5 (d3 _ _ _) hfa;have hs0:Sub Y (upd (upd Y ra (.lst (O.map .int))) fa (.lst [])):=(Sub.upd hra).trans (Sub.upd hfa);have n0:NZ (upd (upd Y ra (.lst (O.map .int))) fa (.lst [])):=(nz.upd aa0).upd rfl;have hf0:upd (upd Y ra (.lst (O.map .int))) fa (.lst []) fa=some (.lst []):=d3 _ _ _;have hfn:Y fa=none:=(j7 hfa).2;have hrf:ra≠fa:=j5 (d3 _ _ _) hfa;generalize upd (upd Y ra (.lst (O.map .int))) fa (.lst [])=τ at hra' hs0 n0 hf0 ⊢;have e2:((c:Int)*((as.map V.ref).length:Int)-0).toNat=c*Ps.length:=by rw[ecm];exact H6 _
 have p8:2 ^ (c*Ps.length)<=256:=cj (n:=2) (by decide) hcm
 refine C1 (λi Z' Y'=>τ=Y'/\∃ o5,Z'=[some (fmV rules tabs c owed),some (.ref ya),some (.ref ra),some (.ref fa),some (.int ((2 ^ i:Nat):Int)),o5,none,none]) ⟨rfl,none,rfl⟩ (λR J hR hJ=>?_) ?_
 ·rintro i _ _ hi hh_;obtain⟨rfl,o5,rfl⟩:=hh_
  k_extra "w";exact hJ ⟨rfl,_,by rw[dL,bC];rfl⟩
 ·rintro _ _ hh_;obtain⟨rfl,o5,rfl⟩:=hh_
  rw[e2];have m60:j4 ((2 ^ (c*Ps.length):Nat):Int):=by unfold j4;lia
  refine Stop.mk ?_;generalize hM:2 ^ (c*Ps.length)=M at p8 m60 ⊢;k_extra "w";have hfm:∀ {i:Nat},((List.range i).map λk=>E0 rules tabs rk owed c (Ps.map g9) (w6 (c*(Ps.map g9).length) k)).length=i:=fun{i}=>by rw[aa,aN]
  refine C1 (AlJ rules tabs rk owed c (Ps.map g9) τ fa (fmV rules tabs c owed) (.ref ya) (.ref ra) (.int (M:Int)) o5) (λ_ k_=>k_ none none d9.refl n0 hf0 rfl) (λR J hR hJ=>?_) ?_
  ·rintro i _ Y' hi hh_;refine hh_ _ ?_;clear hh_;rintro o6 o7 hS hn hf rfl
   have e0:(0:Int)+(i:Int)=i:=bI _;rw[e0];have hs1:Sub Y Y':=λa o e=>hS a o (u1 (j5 e hfn)) (hs0 _ _ e)
   refine Stop.mk (bp7 N F (H.sub hs1) gp pz (hS ra _ (u1 hrf) hra') hO hOl hn hcm hf (by rw[hfm];lia) (RJ.next hi (hJ (λ_ k_=>k_ _ _ (hS.trans (d9.upd (by k_extra "mem"))) (hn.upd ?_) ?_ rfl))))
   ·exact w9 λx hx=>by
     rcases au.mp hx with q | q
     ·refine a9 (ai.mp q) λk _ q1_=>?_;subst q1_;exact W9
     ·rw[ah.mp q];exact W9
   ·rw[d3,bn,ak,aa];rfl
  ·rintro _ Y' hh_;refine hh_ _ ?_;clear hh_;rintro o6 o7 hS hn hf rfl
   have e3:((M:Int)-0).toNat=M:=H6 _;rw[e3] at hf;have hs1:Sub Y Y':=λa o e=>hS a o (u1 (j5 e hfn)) (hs0 _ _ e)
   k_extra "w";refine d4 (h Y' fa hs1 hn hfn ?_);rw[hf];unfold s6 s8;rw[aZ,aa,hM];rfl
end
theorem bb4(f:List V->V){xa:Addr}{cs:List Addr}{Ls:List (List V)}{τ:Hp}{turn:V->Hp->VP->(Hp->Prop)->Prop}{Q:VP}(hx:τ xa=some (.lst (cs.map .ref)))(hP:PAt τ cs Ls)(hz:cs.length<=1000)
  (ht:∀ c x (yes:VP) (no:Hp->Prop),x∈Ls->τ c=some (.lst x)->yes (f x) τ->turn (.ref c) τ yes no) (h:∀ a,τ a=none->Q (.ref a) (upd τ a (.lst (Ls.map f)))):CLoop (cs.map .ref) (λY=>Y xa=some (.lst (cs.map .ref))) τ turn Q:=by
 refine CLoop.g (λrest acc Y'=>τ=Y'/\∃ d1 d2:List Addr,cs=d1++d2/\rest=d2.map .ref/\acc=(Ls.take d1.length).map f) (by rw[aa];lia) ⟨rfl,[],cs,rfl,rfl,rfl⟩ (λJ hJ=>?_) ?_
 ·rintro v rest acc _ hh_;obtain⟨rfl,d1,d2,e1,e2,rfl⟩:=hh_
  refine⟨hx,?_⟩;cases d2 with
  | nil=>cases e2
  | cons c d2=>
   refine c5 (List.cons.inj e2) λq1_ q2_=>?_;subst q1_;subst q2_
   have hc:cs[d1.length]?=some c:=by rw[e1,aS (aI _),cD];rfl
   have q:=(aj.mp hc).1;rw[hP.len] at q;have hl:=ae q;refine ht c _ _ _ (bv q) (hP.at' hc hl) (hJ ⟨rfl,d1++[c],d2,by rw[e1,aF];rfl,rfl,?_⟩)
   rw[ar];show _=(Ls.take (d1.length+1)).map f;rw[bD,hl,ak];rfl
 ·rintro acc _ hh_;obtain⟨rfl,d1,d2,e1,e2,rfl⟩:=hh_
  refine⟨hx,λa ha=>?_⟩
  obtain rfl:d2=[]:=by cases d2 with | nil=>rfl | cons _ _=>cases e2
  rw[aL] at e1;subst e1;rw[hP.len,bF];exact h a ha
theorem aL2{rules tabs:List V}{rk:Int->Nat}{Us:List (List (V×V))}{Ts:List (List Bool)}{k:Nat}(h1:k<Us.length)(h2:k<Ts.length):(eY rules tabs rk Us Ts (k+1)).length=rules.length:=by
 rw[ag0 (ae h1) (ae h2),T7]
theorem bg4{rules tabs:List V}{rk:Int->Nat}{Us:List (List (V×V))}{Ts:List (List Bool)}{k o:Nat}(h1:k<=Us.length)(h2:k<=Ts.length)(ho:o<rules.length):(hL rules tabs rk Us Ts k).map (·.getD o .none)=((List.range k).map λj=>(eY rules tabs rk Us Ts (j+1)).getD o 0).map V.int:=by
 unfold hL;rw[aZ,aZ];refine cX λj hj=>?_
 have hj:=bc.mp hj;have hl:(eY rules tabs rk Us Ts (j+1)).length=rules.length:=aL2 (by lia) (by lia)
 show((eY rules tabs rk Us Ts (j+1)).map V.int).getD o .none=V.int ((eY rules tabs rk Us Ts (j+1)).getD o 0);rw[aw,aw,aq,ae (by lia)];rfl
theorem aZ9{l:List V}(h:nzL l=true){x:V}(hx:x∈l):nz x=true:=by
 obtain⟨i,hi,rfl⟩:=cq hx;exact ag2 h (ae hi)
def SmJ(τ:Hp)(fa fl:Addr)(fm ya c m:V)(pr:List Bool->V)(good:Prop)(cs:List Addr)(A:List (List Bool))(rest:List V)(Z':Lo)(Y':Hp):Prop:=
 ∀ P_:Prop,(∀ (d1 d2:List Addr) (o5 o6:Option V) (e1:cs=d1++d2) (e2:rest=d2.map .ref) (hf:Y' fa=some (.lst ((A.take d1.length).map pr))) (hS:d9 [fa] τ Y') (hn:NZ Y') (hg:d1≠[]->good) (e:Z'=[some fm,some ya,some c,some m,some (.ref fa),o5,o6]),P_)->P_
section
variable{g:G}{d:Nat}{Y:Hp}{Q:V->Hp->Prop}{X:Str->Hp->Prop}{rules tabs:List V}{owed:Int}{rk:Int->Nat}{ya:Addr}{as:List Addr}{Us:List (List (V×V))}{c:Nat}
theorem bh6(N:Nm g)(F:FG rules tabs c owed rk)(H:HIn Y ya as Us)(nz:NZ Y)(hcm:c*Us.length<=8){ta fa:Addr}{T:List Bool}{L:List V}{QQ:d6}{XX:j3}(ht:Y ta=some (.lst (l7 T)))(hT:T.length=c*Us.length)(hf:Y fa=some (.lst L))(hL:L.length<=1000)(hLz:nzO (.lst L)=true)
  (h1:(∀ u∈Us,papF u []≠none)->∀ Y' o,d9 [fa] Y Y'->NZ Y'->Y' fa=some (.lst (L++[E0 rules tabs rk owed c Us T]))->QQ .next [some (fmV rules tabs c owed),some (.ref ya),some (.int c),some (.int Us.length),some (.ref fa),some (.ref ta),o] Y')
  (h2:(∃ u∈Us,papF u []=none)->∀ Z' Y',Sub Y Y'->XX (Str.ofString "NoPaper") Z' Y') {o6:Option V} :
  wSs g (d+14) true aH6 [some (fmV rules tabs c owed),some (.ref ya),some (.int c),some (.int Us.length),some (.ref fa),some (.ref ta),o6] Y QQ XX:=by
 have c8:=F.c8;have zz:=H.zz;have o0:=F.o0;have o1:=F.o1;k_extra "w";refine aV9 (d:=d+13) N ht hT (by lia) (by lia) zz ?_
 k_extra "w";refine aY4 (d:=d) N F H T1.symm (λr hr=>by rw[al7 hT r hr]) nz (λhg Y' b cs k1 k2 k3 k4=>?_) (λhb Y' k=>h2 hb _ Y' k)
 rw[T1] at k4;k_extra "w";have lR:(A9 c Us.length T).length=Us.length:=T1;refine bb4 (λx=>x.getD owed.toNat .none) k3 k4 (by rw[k4.len,ad4];lia) (λe x yes no hx hc hk=>?_) λa ha=>?_
 ·refine a9 (ai.mp hx) λj hj q1_=>?_;subst q1_
  have hj:=bc.mp hj;have hl:((eY rules tabs rk Us (A9 c Us.length T) (j+1)).map V.int).length=rules.length:=by rw[aa,aL2 (by lia) (by lia)]
  have l40:=F.l40;k_extra "w";refine Idx.mk o0 (by lia) (by lia) λz hz=>?_
  rw[T5 hz];exact hk
 rw[bg4 (aI _) (by lia) (by lia)]
 refine SumL.mk _ (d3 _ _ _) ?_;have hf':=k1 _ _ hf;have et:V.tup [q9 (A9 c Us.length T),.int ((List.range Us.length).map λj=>(eY rules tabs rk Us (A9 c Us.length T) (j+1)).getD owed.toNat 0).sum]=E0 rules tabs rk owed c Us T:=by
  unfold E0 ab0;rw[lR]
 have hk:d9 [fa] Y Y':=λc o z_ e=>k1 c o e
 k_extra "w";refine h1 hg _ _ ((hk.trans (d9.new ha)).trans (d9.upd (by k_extra "mem"))) ((k2.upd aa0).upd ?_) (by rw[<- et];exact d3 _ _ _)
 exact w9 λx hx=>by
  rcases au.mp hx with q | q
  ·exact aZ9 hLz q
  ·rw[ah.mp q,et];exact W9
set_option tactic.hygienic true in
theorem N1(N:Nm g)(F:FG rules tabs c owed rk)(H:HIn Y ya as Us)(nz:NZ Y)
  (h1:c*Us.length<=8->(∀ u∈Us,papF u []≠none)->∀ Y' b,Sub Y Y'->NZ Y'->Y b=none->Y' b=some (.lst (s6 rules tabs rk owed c Us))->Q (.ref b) Y')
  (h2:8<c*Us.length->X (Str.ofString "TooMany") Y) (h3:c*Us.length<=8->(∃ u∈Us,papF u []=none)->∀ Y',Sub Y Y'->X (Str.ofString "NoPaper") Y') :
  c7 g (d+15) true "sums" [fmV rules tabs c owed,.ref ya] Y Q X:=by
 refine bn9 N ?_;have c8:=F.c8;have hy:=H.hy;have zz:=H.zz;have hal:(as.map V.ref).length=Us.length:=by rw[aa,H.pa.len,aa]
 have hal':(as.map V.ref).length<=10000:=by lia
 have c60:j4 (c:Int):=by unfold j4;lia
 have ecm:(c:Int)*((as.map V.ref).length:Int)=((c*Us.length:Nat):Int):=by rw[hal];exact(bC _ _).symm
 k_extra "w"
 ·rename_i q
  exact h2 (by rw[ecm] at q;lia)
 ·rename_i q fa hfa
  have hcm:c*Us.length<=8:=by rw[ecm] at q;lia
  rw[ecm];refine bk1 (d:=d+13) N hcm (nz.upd rfl) λτ f cs hs hn hfn hf hP hfr=>?_
  have hff:fa≠f:=λe=>by rw[<- e,d3] at hfn;cases hfn
  have hcl:cs.length=2 ^ (c*Us.length):=by rw[hP.len];unfold s8;rw[aa,aa,aN]
  have p8:2 ^ (c*Us.length)<=256:=cj (n:=2) (by decide) hcm
  have p0:0<2 ^ (c*Us.length):=Nat.pow_pos (by decide)
  have hs0:Sub Y τ:=(Sub.upd hfa).trans hs;have hfa':=hs _ _ (d3 Y fa (.lst []));have hal2:cs.length=(s8 (c*Us.length)).length:=by rw[hP.len,aa]
  rw[hal];refine LoopR.held _ hf (Loop.g (SmJ τ fa f (fmV rules tabs c owed) (.ref ya) (.int c) (.int Us.length) (E0 rules tabs rk owed c Us) (∀ u∈Us,papF u []≠none) cs (s8 (c*Us.length))) (λ_ k_=>k_ [] cs none none rfl rfl hfa' d9.refl hn (λq=>absurd rfl q) rfl) (λR J hR hJ=>?_) ?_)
  ·rintro v rest _ Y' hh_;refine hh_ _ ?_;clear hh_;rintro d1 d2 o5 o6 e1 e2 hf1 hS hn1 hg rfl
   refine⟨hS f _ (u1 hff.symm) hf,?_⟩;cases d2 with
   | nil=>cases e2
   | cons e d2=>
    refine c5 (List.cons.inj e2) λq1_ q2_=>?_;subst q1_;subst q2_
    have he:cs[d1.length]?=some e:=by rw[e1,aS (aI _),cD];rfl
    have hlt:=(aj.mp he).1;obtain⟨T,hT⟩:∃ T,(s8 (c*Us.length))[d1.length]?=some T:=⟨_,ae (hal2▸hlt)⟩;have heT:=hP.at' he (show((s8 (c*Us.length)).map l7)[d1.length]?=some (l7 T) by rw[aq,hT];rfl)
    have hef:e≠fa:=(j7 (hfr e (aD he))).1;have hTl:T.length=c*Us.length:=by refine a9 (ai.mp (aD hT)) λk _ q1_=>?_;subst q1_;exact K4 _ _
    have hs1:Sub Y Y':=λa o e=>hS a o (u1 (j5 e hfa)) (hs0 _ _ e)
    k_extra "w";refine Stop.mk (bh6 (d:=d) N F (H.sub hs1) hn1 hcm (hS e _ (u1 hef) heT) hTl hf1 (by rw[aa];exact al (cR _ _) (by lia)) ?_ (λhg' Y2 o k1 k2 k3=>?_) λhb Z' Y2 k=>h3 hcm hb Y2 (hs1.trans k))
    ·exact w9 λx hx=>by refine a9 (ai.mp hx) λT _ q1_=>?_;subst q1_;exact W9
    ·refine hJ (λ_ k_=>k_ (d1++[e]) d2 _ _ (by rw[e1,aF];rfl) rfl ?_ (hS.trans k1) k2 (λ_=>hg') rfl)
     rw[k3,ar];show _=some (AObj.lst (((s8 (c*Us.length)).take (d1.length+1)).map _));rw[bD,hT,ak];rfl
  ·rintro _ Y' hh_;refine hh_ _ ?_;clear hh_;rintro d1 d2 o5 o6 e1 e2 hf1 hS hn1 hg rfl
   refine⟨hS f _ (u1 hff.symm) hf,?_⟩;obtain rfl:d2=[]:=by cases d2 with | nil=>rfl | cons _ _=>cases e2
   rw[aL] at e1;subst e1;have hs1:Sub Y Y':=λa o e=>hS a o (u1 (j5 e hfa)) (hs0 _ _ e)
   rw[hal2,bF] at hf1;k_extra "w";exact d4 (h1 hcm (hg λq=>by rw[q] at hcl;rw[<- hcl] at p0;exact absurd p0 (bE _)) Y' fa hs1 hn1 hfa hf1)
end
noncomputable def at3(v:V):Int:=match v with
 | .tup l=>toI (l.getD 1 .none)
 | _=>0
noncomputable def T0(b p:V):V:=if at3 p<at3 b then p else b
noncomputable def G4(l:List V):V:=l.foldl T0 (l.getD 0 .none)
inductive PS:V->Prop
 | mk (Ts:List (List Bool)) (s:Int) (h1:Ts.length<=100) (h2:∀ T∈Ts,T.length<=100):PS (.tup [q9 Ts,.int s])
section
variable{rules tabs:List V}{owed:Int}{rk:Int->Nat}{Us:List (List (V×V))}{c:Nat}
theorem S7(hc:c<=8)(hm:Us.length<=100):∀ v∈s6 rules tabs rk owed c Us,PS v:=λv hv=>by
 refine a9 (ai.mp hv) λT hT q1_=>?_;subst q1_
 refine a9 (ai.mp hT) λk z_ q1_=>?_;subst q1_
 exact⟨_,_,by rw[T1];exact hm,λr hr=>by rw[al7 (K4 _ _) r hr];lia⟩
theorem Ya6(hcm:c*Us.length<=8):0<(s6 rules tabs rk owed c Us).length/\(s6 rules tabs rk owed c Us).length<=256:=by
 have e:(s6 rules tabs rk owed c Us).length=2 ^ (c*Us.length):=by unfold s6 s8;rw[aa,aa,aN]
 rw[e];exact⟨Nat.pow_pos (by decide),cj (n:=2) (by decide) hcm⟩
end
theorem aF1{Ts Ts':List (List Bool)}{s s':Int}(h:s<s'):T0 (.tup [q9 Ts',.int s']) (.tup [q9 Ts,.int s])=.tup [q9 Ts,.int s]:=if_pos h
theorem aL3{Ts Ts':List (List Bool)}{s s':Int}(h:¬ s<s'):T0 (.tup [q9 Ts',.int s']) (.tup [q9 Ts,.int s])=.tup [q9 Ts',.int s']:=if_neg h
section
variable{d:Nat}{Y:Hp}{Q:VP}{l:List V}
theorem eqg(h1:flatL l=true)(h2:depL l<=7)(q:Q (.bool true) Y):EqL false (d+1) l l Y Q:=EqL.mk h1 h1 (by rw[cW];lia) (by rw[SeqAt.eqvAll_refl _ (G1 h1)];exact q)
theorem neg(h1:flatL l=true)(h2:depL l<=7)(q:Q (.bool false) Y):EqL true (d+1) l l Y Q:=EqL.mk h1 h1 (by rw[cW];lia) (by rw[SeqAt.eqvAll_refl _ (G1 h1)];exact q)
theorem net(h1:flatL l=true)(h2:depL l<=7)(q:Q (.bool false) Y):EqT true (d+1) l l Y Q:=EqT.mk h1 h1 (by rw[cW];lia) (by rw[SeqAt.eqvAll_refl _ (G1 h1)];exact q)
end
def LeJ(L:List V)(Y:Hp)(v0 v1 v2:V)(rest:List V)(Z':Lo)(Y':Hp):Prop:=
 ∀ P_:Prop,(∀ (b:V) (o:Option V) (hb:PS b) (hr:∀ v∈rest,PS v) (hf:rest.foldl T0 b=G4 L) (e1:Y=Y') (e:Z'=[some v0,some v1,some v2,some b,o]),P_)->P_
section
variable{g:G}{d:Nat}{Y:Hp}{Q:V->Hp->Prop}{X:Str->Hp->Prop}{rules tabs:List V}{owed:Int}{rk:Int->Nat}{ya:Addr}{as:List Addr}{Us:List (List (V×V))}{c:Nat}
set_option tactic.hygienic true in
theorem aE3(N:Nm g)(F:FG rules tabs c owed rk)(H:HIn Y ya as Us)(nz:NZ Y)
  (h1:c*Us.length<=8->(∀ u∈Us,papF u []≠none)->∀ Y',Sub Y Y'->NZ Y'->Q (G4 (s6 rules tabs rk owed c Us)) Y')
  (h2:8<c*Us.length->X (Str.ofString "TooMany") Y) (h3:c*Us.length<=8->(∃ u∈Us,papF u []=none)->∀ Y',Sub Y Y'->X (Str.ofString "NoPaper") Y') :
  c7 g (d+16) true "least" [fmV rules tabs c owed,.ref ya] Y Q X:=by
 refine ba1 N ?_;have c8:=F.c8;k_extra "w";refine N1 (d:=d) N F H nz (λhcm hg Y' b k1 k2 k3 k4=>?_) h2 h3
 refine c5 (Ya6 (rules:=rules) (tabs:=tabs) (rk:=rk) (owed:=owed) hcm) λl0 l1=>?_
 have hps:=S7 (rules:=rules) (tabs:=tabs) (rk:=rk) (owed:=owed) (c:=c) (Us:=Us) (by lia) H.zz
 have h1:=h1 hcm hg Y' k1 k2;generalize s6 rules tabs rk owed c Us=L at k4 l0 l1 hps h1;cases L with
 | nil=>cases l0
 | cons x L=>
  k_extra "w";refine LoopR.held _ k4 (Loop.g (LeJ (x::L) Y' (fmV rules tabs c owed) (.ref ya) (.ref b)) (λ_ k_=>k_ x none (hps x (.head _)) hps rfl rfl rfl) (λR J hR hJ=>?_) ?_)
  ·rintro v rest _ _ hh_;refine hh_ _ ?_;clear hh_;rintro p o hp hr hf rfl rfl
   refine⟨k4,?_⟩;have hr':∀ v∈rest,PS v:=λw hw=>hr w (.tail _ hw)
   obtain⟨Ts,s,-,-⟩:=hr v (.head _);obtain⟨Ts',s',a1,a2⟩:=hp;k_extra "w"
   ·rename_i q
    exact hJ (λ_ k_=>k_ _ _ (hr _ (.head _)) hr' (by rw[<- hf,bk,aF1 q]) rfl rfl)
   ·rename_i q
    exact hJ (λ_ k_=>k_ _ _ ⟨Ts',s',a1,a2⟩ hr' (by rw[<- hf,bk,aL3 q]) rfl rfl)
  ·rintro _ _ hh_;refine hh_ _ ?_;clear hh_;rintro p o hp hr hf rfl rfl
   refine⟨k4,?_⟩;k_extra "w";have e:p=G4 (x::L):=hf;rw[e];exact d4 h1
end
section
variable{g:G}{d:Nat}{Y:Hp}{Q:V->Hp->Prop}{X:Str->Hp->Prop}
set_option tactic.hygienic true in
theorem aM7(N:Nm g){a:Addr}{L:List V}(ha:Y a=some (.lst L))(hz:L.length<=1000)(hL:∀ v∈L,PS v)(h:Q (.bool true) Y):c7 g (d+2) true "_law_kinds" [.ref a] Y Q X:=by
 refine bg7 N ?_;k_extra "w";refine LoopR.held _ ha (Loop.g (λrest Z' Y'=>Sub Y Y'/\(∀ v∈rest,PS v)/\∃ o1 o2,Z'=[some (.ref a),o1,o2]) ⟨Sub.refl _,hL,none,none,rfl⟩ (λR J hR hJ=>?_) ?_)
 ·rintro v rest _ Y' hh_;obtain⟨hs,hr,o1,o2,rfl⟩:=hh_
  refine⟨hs _ _ ha,?_⟩;have hr':∀ v∈rest,PS v:=λw hw=>hr w (.tail _ hw)
  obtain⟨Ts,s,t1,t2⟩:=hr v (.head _);k_extra "w";refine bA6 N ?_;k_extra "w";refine Loop.g (λrest2 ρ2 Y2=>Sub Y' Y2/\(∃ Ts2:List (List Bool),rest2=Ts2.map trV/\∀ T∈Ts2,T.length<=100)/\∃ o2,ρ2=[some (.ref a),some (.tup [q9 Ts,.int s]),o2]) ⟨Sub.refl _,⟨Ts,rfl,t2⟩,o2,rfl⟩ (λR2 J2 hR2 hJ2=>?_) ?_
  ·rintro w rest2 _ Y2 ⟨hs2,⟨Ts2,e,t3⟩,o2,rfl⟩
   refine⟨trivial,?_⟩;cases Ts2 with
   | nil=>cases e
   | cons T Ts2=>
    refine c5 (List.cons.inj e) λq1_ q2_=>?_;subst q1_;subst q2_
    have hTl:=t3 T (.head _);k_extra "w";refine CLoop.g (λrest3 acc Y3=>Y2=Y3/\acc=[]/\∃ bs:List Bool,rest3=bs.map .bool) (by rw[aa];lia) ⟨rfl,rfl,T,rfl⟩ (λJ3 hJ3=>?_) ?_
    ·rintro v rest3 acc _ hh_;obtain⟨rfl,rfl,bs,e3⟩:=hh_
     refine⟨trivial,?_⟩;cases bs with
     | nil=>cases e3
     | cons b bs=>
      refine c5 (List.cons.inj e3) λq1_ q2_=>?_;subst q1_;subst q2_
      k_extra "w";exact hJ3 ⟨rfl,rfl,bs,rfl⟩
    ·rintro acc _ hh_;refine k6 hh_ λq1_ q2_ _=>?_;clear hh_;subst q1_;subst q2_
     refine⟨trivial,λb hb=>?_⟩
     k_extra "w";rename_i b2 hb2;refine neg rfl (ay _) ?_;k_extra "w";exact hJ2 ⟨hs2.trans ((Sub.upd hb).trans (Sub.upd hb2)),⟨Ts2,rfl,λT hT=>t3 T (.tail _ hT)⟩,_,rfl⟩
  ·rintro _ Y2 hh_;obtain⟨hs2,-,o2,rfl⟩:=hh_
   refine⟨trivial,?_⟩;exact hJ ⟨hs.trans hs2,hr',_,_,rfl⟩
 ·rintro _ Y' hh_;obtain⟨hs,-,o1,o2,rfl⟩:=hh_
  refine⟨hs _ _ ha,?_⟩;k_extra "w";exact m9 hs h
noncomputable def P8:List Str:=[Str.ofString "NoPaper",Str.ofString "TooMany"]
theorem hb2{x:Str}{ys ns:List Str}(hx:x∈P8)(hc:P8.all (λx=>ys.contains x||ns.contains x)=true)(e:ys.contains x=false):ns.contains x=true:=by
 have:=aB.mp hc x hx;rw[e] at this;exact this
noncomputable def cnt(x:Str):Int:=b2i ([Str.ofString "NoTable"].contains x)+b2i ([Str.ofString "NoForm"].contains x)+b2i ([Str.ofString "NoRule"].contains x)
theorem bX3:∀ x∈P8,cnt x+b2i ([Str.ofString "Ring"].contains x)+b2i ([Str.ofString "NoPaper"].contains x)+b2i (([]:List Str).contains x)+b2i (([]:List Str).contains x)+b2i ([Str.ofString "NoChoice"].contains x)+b2i ([Str.ofString "TooMany"].contains x)=1:=by decide +kernel
noncomputable def bN7:List Str:=[Str.ofString "NoTable",Str.ofString "NoForm",Str.ofString "Ring",Str.ofString "NoPaper",Str.ofString "NoChoice",Str.ofString "TooMany",Str.ofString "NoRule"]
theorem aW8:∀ x∈P8,bN7.contains x=true:=by decide +kernel
theorem cl7:True:=by
 k_with "s"=>refine LookX.mk _ (by with_reducible assumption) (HitB.mk _ (λe=>e) (hb2 (by with_reducible assumption) (by decide +kernel)) ?_)
 trivial
set_option tactic.hygienic true in
theorem aF8(N:Nm g){a:Addr}{x:Str}{X:XP}(ha:Y a=some (.ex x))(hx:x∈P8)(h:Q (.bool true) Y):c7 g (d+1) false "_law_alone" [.ref a] Y Q X:=by
 refine bj2 N ?_;k_extra "w"
 ·rename_i q
  exact r_b (aW8 x hx) h
 ·rename_i q
  exact absurd (bX3 x hx) q
end
inductive BadW(c:Nat)(Us:List (List (V×V))):Str->Prop
 | many (h:8<c*Us.length):BadW c Us "many"
 | paper (h:c*Us.length<=8) (k:∃ u∈Us,papF u []=none):BadW c Us "paper"
section
variable{g:G}{d:Nat}{Y:Hp}{Q:V->Hp->Prop}{X:Str->Hp->Prop}{rules tabs:List V}{owed:Int}{rk:Int->Nat}{ya:Addr}{as:List Addr}{Us:List (List (V×V))}{c:Nat}{w:Str}
theorem BadW.no(B:BadW c Us w)(h:c*Us.length<=8)(k:∀ u∈Us,papF u []≠none){P:Prop}:P:=by
 cases B with
 | many q=>exact absurd h (cm.mpr q)
 | paper _ q=>refine a9 q λu hu e=>?_;exact absurd e (k u hu)
theorem az1(N:Nm g)(F:FG rules tabs c owed rk)(H:HIn Y ya as Us)(nz:NZ Y)(B:BadW c Us w){i:Int}(h:Q (.str w) Y):c7 g (d+17) true "_law_tried" [fmV rules tabs c owed,.ref ya,.int i] Y Q X:=by
 refine bX0 N ?_;k_extra "w"
 ·refine N1 (d:=d+1) N F H nz (λh1 h2=>B.no h1 h2) (λq=>?_) (λq k Y' hs=>?_)
  ·obtain rfl:w = "many":=by cases B with | many _=>rfl | paper q' _=>exact absurd q' (cm.mpr q)
   k_extra "w";exact d4 h
  ·obtain rfl:w = "paper":=by cases B with | many q'=>exact absurd q (cm.mpr q') | paper _ _=>rfl
   k_extra "w";exact m9 hs h
 ·refine aE3 (d:=d) N F H nz (λh1 h2=>B.no h1 h2) (λq=>?_) (λq k Y' hs=>?_)
  ·obtain rfl:w = "many":=by cases B with | many _=>rfl | paper q' _=>exact absurd q' (cm.mpr q)
   k_extra "w";exact d4 h
  ·obtain rfl:w = "paper":=by cases B with | many q'=>exact absurd q (cm.mpr q') | paper _ _=>rfl
   k_extra "w";exact m9 hs h
theorem bS2(N:Nm g)(F:FG rules tabs c owed rk)(H:HIn Y ya as Us)(nz:NZ Y)(B:BadW c Us w)(h:∀ Y',Q (.bool true) Y'):c7 g (d+16) true "_law_any" [fmV rules tabs c owed,.ref ya] Y Q X:=by
 refine aY3 N ?_;k_extra "w";refine N1 (d:=d) N F H nz (λh1 h2=>B.no h1 h2) (λq=>?_) (λq k Y' hs=>?_)
 ·k_extra "w"
  refine aF8 (d:=d+14) N (d3 _ _ _) (by decide +kernel) ?_
  exact d4 (h _)
 ·k_extra "w"
  refine aF8 (d:=d+14) N (d3 _ _ _) (by decide +kernel) ?_
  exact d4 (h _)
theorem ak0(N:Nm g)(F:FG rules tabs c owed rk)(H:HIn Y ya as Us)(nz:NZ Y)(B:BadW c Us w)(h:∀ Y',Q (.bool true) Y'):c7 g (d+18) true "_law_refused" [fmV rules tabs c owed,.ref ya,.str w] Y Q X:=by
 refine bT2 N ?_;k_extra "w";refine az1 (d:=d) N F H nz B ?_;k_extra "w";refine az1 (d:=d) N F H nz B ?_;k_extra "w";exact bS2 (d:=d+1) N F H nz B λY'=>d4 (h _)
end
theorem ch3{α:Type}{f:α->List V}{R:α->Prop}{Ls:List (List V)}(h:∀ x∈Ls,∃ P,R P/\x=f P):∃ Ps:List α,Ls=Ps.map f/\∀ P∈Ps,R P:=by
 induction Ls with
 | nil=>exact⟨[],rfl,λP hP=>by cases hP⟩
 | cons x Ls ih=>
  refine a9 (h x (.head _)) λP hP q1_=>?_;subst q1_
  obtain⟨Ps,rfl,k⟩:=ih λy hy=>h y (.tail _ hy)
  exact⟨P::Ps,rfl,λq hq=>by
   rcases am.mp hq with rfl | hq
   ·exact hP
   ·exact k q hq⟩
def MkJ(st:Addr)(Y:Hp)(R:List V->Prop)(i:Nat)(acc:List V)(Y':Hp):Prop:=
 ∀ P_:Prop,(∀ (as:List Addr) (Ls:List (List V)) (n:Int) (e1:acc=as.map .ref) (e2:Ls.length=i) (hS:d9 [st] Y Y') (hst:Y' st=some (.lst [.int n])) (n0:0<=n) (n1:n<2147483647) (hP:PAt Y' as Ls) (hR:∀ x∈Ls,R x) (hn:NZ Y') (ne:∀ a∈as,a≠st),P_)->P_
theorem bd4{st:Addr}{Y:Hp}{n cnt:Int}{turn:V->Hp->VP->(Hp->Prop)->Prop}{Q:VP}(R:List V->Prop)(c0:0<=cnt)(c8:cnt<=100)(nz:NZ Y)(hst:Y st=some (.lst [.int n]))(n0:0<=n)(n1:n<2147483647)(hR:∀ x,R x->nzL x=true)
  (ht:∀ Y' n v (yes:VP) (no:Hp->Prop),d9 [st] Y Y'->Y' st=some (.lst [.int n])->0<=n->n<2147483647->(∀ b x n',b≠st->Y' b=none->R x->0<=n'->n'<2147483647->yes (.ref b) (upd (upd Y' st (.lst [.int n'])) b (.lst x)))->turn v Y' yes no)
  (h:∀ Y' l as Ls n,d9 [st] Y Y'->Y' st=some (.lst [.int n])->0<=n->n<2147483647->Y' l=some (.lst (as.map .ref))->l≠st->PAt Y' as Ls->(Ls.length:Int)=cnt->(∀ x∈Ls,R x)->NZ Y'->(∀ a∈as,a≠st)->Q (.ref l) Y'):CLoop (k8 0 1 (cnt-0).toNat) (λz_=>True) Y turn Q:=by
 refine O1 (MkJ st Y R) (by lia) (λz_ k_=>k_ [] [] n rfl rfl d9.refl hst n0 n1 PAt.nil (λx hx=>(by cases hx)) nz (λa ha=>(by cases ha))) (λJ hJ=>?_) ?_
 ·rintro i acc Y' hi hh_;refine hh_ _ ?_;clear hh_;rintro as Ls n rfl e2 hS hst n0 n1 hP hR' hn ne
  refine ht Y' n _ _ _ hS hst n0 n1 λb x n' b1 b2 hx m0 m1=>CJ.next hi (hJ (λz_ k_=>k_ (as++[b]) (Ls++[x]) n' (by rw[ak];rfl) (by rw[ar,e2];rfl) ?_ ?_ m0 m1 ?_ ?_ ((hn.upd rfl).upd (hR x hx)) ?_))
  ·exact(hS.trans (d9.upd (by k_extra "mem"))).trans (d9.new (ab8 b2 b1))
  ·rw[d8 _ _ (Ne.symm b1)];exact d3 _ _ _
  ·exact(hP.stay ((d9.upd (by k_extra "mem")).trans (d9.new (ab8 b2 b1))) λc hc=>u1 (ne c hc)).snoc (d3 _ _ _)
  ·intro y hy
   rcases au.mp hy with q | q
   ·exact hR' y q
   ·rw[ah.mp q];exact hx
  ·intro y hy
   rcases au.mp hy with q | q
   ·exact ne y q
   ·rw[ah.mp q];exact b1
 ·rintro acc Y' hh_ c hc;refine hh_ _ ?_;clear hh_;rintro as Ls n rfl e2 hS hst n0 n1 hP hR' hn ne
  exact h _ c as Ls n (hS.trans (d9.new hc)) (l5 hst hc) n0 n1 (d3 _ _ _) (j5 hst hc).symm (hP.sub (Sub.upd hc)) (by lia) hR' (hn.upd R9) ne
theorem bC5{l:List Str}:nzO (.lst (l.map V.str))=true:=w9 λx hx=>by refine a9 (ai.mp hx) λb z_ q1_=>?_;subst q1_;rfl
theorem bM5{P:List (Str×Int)}:nzO (.lst ((g9 P).map A1))=true:=w9 λx hx=>by
 refine a9 (ai.mp hx) λq hq q1_=>?_;subst q1_
 refine a9 (ai.mp hq) λp hp q1_=>?_;subst q1_
 rfl
theorem PAt.set{Y:Hp}{cs:List Addr}{Ls:List (List V)}{c:Addr}{x:List V}(h:PAt Y cs Ls)(i:Nat)(e:Y c=some (.lst x)):PAt Y (cs.set i c) (Ls.set i x):=
 ⟨by rw[bt,bt,h.len],fun{j c' x'} e1 e2=>by
  rw[du] at e1 e2;by_cases q:i=j
  ·rw[if_pos q] at e1 e2
   by_cases q2:i<cs.length
   ·rw[if_pos q2] at e1
    rw[if_pos (h.len▸q2)] at e2;cases e1;cases e2;exact e
   ·rw[if_neg q2] at e1;cases e1
  ·rw[if_neg q] at e1 e2;exact h.at' e1 e2⟩
theorem aa3{k:Nat}{l:List V}(h:∀ x∈l,flat x=true/\dep x<=k):flatL l=true/\depL l<=k:=by
 induction l with
 | nil=>exact⟨rfl,ay _⟩
 | cons x l ih=>
  refine c5 (h x (.head _)) λh1 h2=>?_
  obtain⟨h3,h4⟩:=ih λy hy=>h y (.tail _ hy)
  exact⟨by show(flat x&&flatL l)=true;rw[h1,h3];rfl,cU.mpr ⟨h2,h4⟩⟩
theorem al3{k:Nat}{l:List V}(h:flatL l=true/\depL l<=k):flat (.tup l)=true/\dep (.tup l)<=k+1:=⟨h.1,bG h.2⟩
theorem bG8{Ts:List (List Bool)}:flat (q9 Ts)=true/\dep (q9 Ts)<=2:=al3 (aa3 λx hx=>by
 refine a9 (ai.mp hx) λT z_ q1_=>?_;subst q1_
 exact al3 (aa3 (k:=0) λy hy=>by refine a9 (ai.mp hy) λb z_ q1_=>?_;subst q1_;exact⟨rfl,aI _⟩))
theorem PS.flat{v:V}(h:PS v):flat v=true/\dep v<=3:=by
 obtain⟨Ts,s,-,-⟩:=h;refine al3 (aa3 λx hx=>?_)
 rcases am.mp hx with rfl | hx
 ·exact bG8
 ·rw[ah.mp hx];exact⟨rfl,ay _⟩
theorem PS.flatL{L:List V}(h:∀ v∈L,PS v):Internal.flatL L=true/\depL L<=7:=(aa3 (k:=3) λx hx=>(h x hx).flat).imp id λq=>al q (by decide)
theorem PS.nz{v:V}(h:PS v):Internal.nz v=true:=by
 obtain⟨Ts,s,-,-⟩:=h;exact G2 rfl (by show(Internal.nz (q9 _)&&(true&&true))=true;rw[M6];rfl)
noncomputable def ai8:V:=.tup [.str "choose",.int 0,.tup [.str "choose",.int 1,.tup [.str "number",.int 5],.tup [.str "number",.int 3]],.tup [.str "number",.int 3]]
theorem FG.put{rules tabs:List V}{C owed:Int}{rk:Int->Nat}(F:FG rules tabs C owed rk)(h:1<C):FG (rules.set owed.toNat ai8) tabs C owed rk:=by
 have el:(rules.set owed.toNat ai8).length=rules.length:=bt ..;refine⟨λi r hr=>?_,by rw[el];exact F.l1,by rw[el];exact F.l40,F.t5,F.tab,F.c0,F.c8,F.o0,by rw[el];exact F.o1⟩
 rw[el];rw[du] at hr;by_cases q:owed.toNat=i
 ·rw[if_pos q] at hr
  by_cases q2:owed.toNat<rules.length
  ·rw[if_pos q2] at hr
   cases hr;exact .chol (by decide) (show 0<C by lia) (.chol (by decide) h (.num (by decide) (by decide)) (.num (by decide) (by decide))) (.num (by decide) (by decide))
  ·rw[if_neg q2] at hr;cases hr
 ·rw[if_neg q] at hr;exact F.gr i r hr
section
variable{g:G}{d:Nat}{Y:Hp}{Q:V->Hp->Prop}{X:Str->Hp->Prop}{rules tabs:List V}{owed:Int}{rk:Int->Nat}{yl:Addr}{as:List Addr}{Ps:List (List (Str×Int))}{c:Nat}{v0 v1 v2 v3 v4 v5:V}
theorem aj2(gp:∀ P∈Ps,GP P):∀ u∈Ps.map g9,papF u []≠none:=λu hu=>by
 refine a9 (ai.mp hu) λP hP q1_=>?_;subst q1_
 rw[(gp P hP).papF];exact λe=>by cases e
set_option tactic.hygienic true in
theorem cj7(N:Nm g)(F:FG rules tabs c owed rk)(H:HIn Y yl as (Ps.map g9))(gp:∀ P∈Ps,GP P)(nz:NZ Y)(hcm:c*(Ps.map g9).length<=8){dl fl:Addr}{o10 o11 o12:Option V}(hd:Y dl=some (.lst (s6 rules tabs rk owed c (Ps.map g9))))(hf:Y fl=some (.lst (s6 rules tabs rk owed c (Ps.map g9))))(h:∀ Y',Q (.bool true) Y') :
  wSs g (d+18) true aE4 [some v0,some v1,some v2,some v3,some v4,some v5,some (fmV rules tabs c owed),some (.ref yl),some (.ref dl),some (.ref fl),o10,o11,o12] Y (e8 Q) (xK X):=by
 have c8:=F.c8;have hps:=S7 (rules:=rules) (tabs:=tabs) (rk:=rk) (owed:=owed) (c:=c) (by lia) H.zz
 have fl1:=PS.flatL hps;k_extra "w";rename_i e he;refine N1 (d:=d+3) (as:=[]) (Us:=[]) N F ⟨d3 _ _ _,PAt.nil,λu hu=>(by cases hu),λu hu=>(by cases hu),ay _⟩ (nz.upd rfl) (λ_ _ Y1 b k1 k2 k3 k4=>?_) (λq=>absurd q (by rw[cy,Nat.mul_zero];decide)) (λ_ q=>by refine a9 q λu hu _=>?_;cases hu)
 have hs:Sub Y Y1:=(Sub.upd he).trans k1;have hps0:=S7 (rules:=rules) (tabs:=tabs) (rk:=rk) (owed:=owed) (c:=c) (Us:=[]) (by lia) (ay _)
 have l0:=(Ya6 (rules:=rules) (tabs:=tabs) (rk:=rk) (owed:=owed) (c:=c) (Us:=[]) (by rw[cy,Nat.mul_zero];decide)).2
 have hb0:Y b=none:=(j7 k3).2;generalize s6 rules tabs rk owed c []=L0 at k4 hps0 l0;generalize hLe:s6 rules tabs rk owed c (Ps.map g9)=L at hd hf hps fl1;k_extra "w";have hsω:Sub Y (upd Y1 b (.lst (L0++[.int 7]))):=λa o e=>by rw[d8 _ _ (j5 e hb0)];exact hs _ _ e
 have nω:NZ (upd Y1 b (.lst (L0++[.int 7]))):=k2.upd (w9 λx hx=>by
  rcases au.mp hx with q | q
  ·exact(hps0 x q).nz
  ·rw[ah.mp q];rfl)
 have hd':=hsω _ _ hd;have hf':=hsω _ _ hf;generalize upd Y1 b _=ω at hsω nω hd' hf' ⊢;k_extra "w";refine eqg fl1.1 fl1.2 ?_;k_extra "w";refine N1 (d:=d+3) N F (H.sub hsω) nω (λ_ _ Y2 b2 m1 m2 m3 m4=>?_) (λq=>absurd hcm (cm.mpr q)) (λ_ q=>by refine a9 q λu hu e=>?_;exact absurd e (aj2 gp u hu))
 rw[hLe] at m4;have hd2:=m1 _ _ hd';k_extra "w";refine eqg fl1.1 fl1.2 ?_;exact d4 (h _)
def LbJ(L:List V)(Y:Hp)(v0 v1 v2 v3 v4 v5 v6 v7 v8 v9:V)(rest:List V)(Z':Lo)(Y':Hp):Prop:=
 ∀ P_:Prop,(∀ (b:V) (o:Option V) (hb:PS b) (hr:∀ v∈rest,PS v) (hf:rest.foldl T0 b=G4 L) (e1:Y=Y') (e:Z'=[some v0,some v1,some v2,some v3,some v4,some v5,some v6,some v7,some v8,some v9,some b,o,none]),P_)->P_
set_option tactic.hygienic true in
theorem ca7(N:Nm g)(F:FG rules tabs c owed rk)(H:HIn Y yl as (Ps.map g9))(gp:∀ P∈Ps,GP P)(nz:NZ Y)(hcm:c*(Ps.map g9).length<=8){dl fl:Addr}{o11:Option V}(hd:Y dl=some (.lst (s6 rules tabs rk owed c (Ps.map g9))))(hf:Y fl=some (.lst (s6 rules tabs rk owed c (Ps.map g9))))(hb:PS (G4 (s6 rules tabs rk owed c (Ps.map g9))))(h:∀ Y',Q (.bool true) Y') :
  wSs g (d+18) true aF0 [some v0,some v1,some v2,some v3,some v4,some v5,some (fmV rules tabs c owed),some (.ref yl),some (.ref dl),some (.ref fl),some (G4 (s6 rules tabs rk owed c (Ps.map g9))),o11,none] Y (e8 Q) (xK X):=by
 k_extra "w";refine aE3 (d:=d+2) N F H nz (λ_ _ Y1 k1 k2=>?_) (λq=>absurd hcm (cm.mpr q)) (λ_ q=>by refine a9 q λu hu e=>?_;exact absurd e (aj2 gp u hu))
 have hfl:=hb.flat;have hps:=hb;generalize hB:G4 (s6 rules tabs rk owed c (Ps.map g9))=B at hb hfl hps;obtain⟨Ts,s,t1,t2⟩:=hb;k_extra "w";rename_i a ha;refine aM7 (d:=d+16) N (d3 _ _ _) (show 1<=1000 by decide) (λv hv=>by rw[ah.mp hv];exact hps) ?_
 have s2:=k1.trans (Sub.upd (o:=.lst [V.tup [q9 Ts,.int s]]) ha);k_extra "w";refine net hfl.1 (by have:=hfl.2;show PyData.depthAll _<=7;exact al (eh this) (by decide)) ?_
 k_extra "w";exact Stop.mk (cj7 N F (H.sub s2) gp (k2.upd (w9 λx hx=>by rw[ah.mp hx];exact hps.nz)) hcm (s2 _ _ hd) (s2 _ _ hf) h)
set_option tactic.hygienic true in
theorem bx1(N:Nm g)(F:FG rules tabs c owed rk)(H:HIn Y yl as (Ps.map g9))(gp:∀ P∈Ps,GP P)(nz:NZ Y)(hcm:c*(Ps.map g9).length<=8){dl fl:Addr}(hd:Y dl=some (.lst (s6 rules tabs rk owed c (Ps.map g9))))(hf:Y fl=some (.lst (s6 rules tabs rk owed c (Ps.map g9))))(h:∀ Y',Q (.bool true) Y') :
  wSs g (d+18) true ar8 [some v0,some v1,some v2,some v3,some v4,some v5,some (fmV rules tabs c owed),some (.ref yl),some (.ref dl),some (.ref fl),none,none,none] Y (e8 Q) (xK X):=by
 have c8:=F.c8;have hps:=S7 (rules:=rules) (tabs:=tabs) (rk:=rk) (owed:=owed) (c:=c) (by lia) H.zz
 refine c5 (Ya6 (rules:=rules) (tabs:=tabs) (rk:=rk) (owed:=owed) hcm) λl0 l1=>?_
 have k27:=fun(hb:PS (G4 (s6 rules tabs rk owed c (Ps.map g9)))) (o11:Option V)=>ca7 (d:=d) (X:=X) (v0:=v0) (v1:=v1) (v2:=v2) (v3:=v3) (v4:=v4) (v5:=v5) (o11:=o11) N F H gp nz hcm hd hf hb h
 generalize hLe:s6 rules tabs rk owed c (Ps.map g9)=L at hd hf hps l0 l1 k27;cases L with
 | nil=>cases l0
 | cons x L=>
  k_extra "w";refine LoopR.held _ hd (Loop.g (LbJ (x::L) Y v0 v1 v2 v3 v4 v5 (fmV rules tabs c owed) (.ref yl) (.ref dl) (.ref fl)) (λ_ k_=>k_ x none (hps x (.head _)) hps rfl rfl rfl) (λR J hR hJ=>?_) ?_)
  ·rintro v rest _ _ hh_;refine hh_ _ ?_;clear hh_;rintro p o hp hr hf rfl rfl
   refine⟨hd,?_⟩;have hr':∀ v∈rest,PS v:=λw hw=>hr w (.tail _ hw)
   obtain⟨Ts,s,-,-⟩:=hr v (.head _);obtain⟨Ts',s',a1,a2⟩:=hp;k_extra "w"
   ·rename_i q
    exact hJ (λ_ k_=>k_ _ _ (hr _ (.head _)) hr' (by rw[<- hf,bk,aF1 q]) rfl rfl)
   ·rename_i q
    exact hJ (λ_ k_=>k_ _ _ ⟨Ts',s',a1,a2⟩ hr' (by rw[<- hf,bk,aL3 q]) rfl rfl)
  ·rintro _ _ hh_;refine hh_ _ ?_;clear hh_;rintro p o hp hr hf rfl rfl
   refine⟨hd,?_⟩;have e:p=G4 (x::L):=hf;subst e;exact Stop.mk (k27 hp o)
theorem bl5(N:Nm g)(F:FG rules tabs c owed rk)(H:HIn Y yl as (Ps.map g9))(gp:∀ P∈Ps,GP P)(pz:∀ P∈Ps,P.length<=100)(nz:NZ Y)(hcm:c*Ps.length<=8)(h:∀ Y',Q (.bool true) Y') :
  wSs g (d+18) true as8 [some v0,some v1,some v2,some v3,some v4,some v5,some (fmV rules tabs c owed),some (.ref yl),none,none,none,none,none] Y (e8 Q) (xK X):=by
 have c8:=F.c8;have hcm':c*(Ps.map g9).length<=8:=by rw[aa];exact hcm
 have hps:=S7 (rules:=rules) (tabs:=tabs) (rk:=rk) (owed:=owed) (c:=c) (by lia) H.zz
 have l1:=(Ya6 (rules:=rules) (tabs:=tabs) (rk:=rk) (owed:=owed) hcm').2;have fl1:=PS.flatL hps;k_extra "w";refine bf9 (d:=d+4) N F H gp pz nz hcm λY1 dl k1 k2 k3 k4=>?_
 k_extra "w";refine N1 (d:=d+3) N F (H.sub k1) k2 (λz_ z_ Y2 fl m1 m2 m3 m4=>?_) (λq=>absurd hcm' (cm.mpr q)) (λz_ q=>by refine a9 q λu hu e=>?_;exact absurd e (aj2 gp u hu))
 have hd:=m1 _ _ k4;k_extra "w";refine neg fl1.1 fl1.2 ?_;k_extra "w";refine aM7 (d:=d+16) N m4 (by lia) hps ?_
 k_extra "w";exact Stop.mk (bx1 N F ((H.sub k1).sub m1) gp m2 hcm' hd m4 h)
end
noncomputable def M0:V×V:=(.str (Str.ofString "A"),.int 1)
theorem cc1:papF [M0] []=none:=aj4 (by decide +kernel)
theorem bw9{Y:Hp}{yl a:Addr}{as:List Addr}{Us:List (List (V×V))}(H:HIn Y yl as Us)(ha:a∈as):a≠yl:=λe=>by
 refine a9 (H.pa.has ha) λx hx ex=>?_
 rw[e,H.hy] at ex;refine a9 (ai.mp hx) λu z_ q1_=>?_;subst q1_
 cases as with
 | nil=>cases ha
 | cons b as=>cases u with
  | nil=>cases ex
  | cons p u=>cases ex
section
variable{g:G}{d:Nat}{Y:Hp}{Q:V->Hp->Prop}{X:Str->Hp->Prop}{rules tabs:List V}{owed:Int}{rk:Int->Nat}{yl st:Addr}{as:List Addr}{Ps:List (List (Str×Int))}{c:Nat}{v0 v1 v2 v5:V}{n:Int}
open Internal renaming E2->y28
theorem cm0:True:=by
 k_with "call"=>(refine y28 (by with_reducible assumption) (by k_extra "heap") (by with_reducible assumption) (by with_reducible assumption) (by k_extra "n") (by k_extra "n") ?_;intro _ _ _ _ _ _)
 trivial
set_option tactic.hygienic true in
theorem aO2(N:Nm g)(F:FG rules tabs c owed rk)(H:HIn Y yl as (Ps.map g9))(gp:∀ P∈Ps,GP P)(pz:∀ P∈Ps,P.length<=100)(nz:NZ Y)(h:∀ Y',Q (.bool true) Y') :
  wSs g (d+18) true aF4 [some v0,some v1,some v2,some (.int Ps.length),some (.int c),some v5,some (fmV rules tabs c owed),some (.ref yl),none,none,none,none,none] Y (e8 Q) (xK X):=by
 have c8:=F.c8;have c60:j4 (c:Int):=by unfold j4;lia
 have ecm:(c:Int)*(Ps.length:Int)=((c*Ps.length:Nat):Int):=(bC _ _).symm;k_extra "w"
 ·rename_i q
  rw[ecm] at q;exact ak0 (d:=d) N F H nz (.many (by rw[aa];lia)) λY'=>d4 (h _)
 ·rename_i q
  rw[ecm] at q;exact Stop.mk (bl5 N F H gp pz nz (by lia) h)
set_option tactic.hygienic true in
theorem bY9(N:Nm g)(F:FG rules tabs c owed rk)(H:HIn Y yl as (Ps.map g9))(gp:∀ P∈Ps,GP P)(pz:∀ P∈Ps,P.length<=100)(nz:NZ Y)(hst:Y st=some (.lst [.int n]))(n0:0<=n)(n1:n<2147483647)(hys:yl≠st)(has:∀ a∈as,a≠st)(h:∀ Y',Q (.bool true) Y') :
  wSs g (d+18) true aF5 [some v0,some v1,some (.ref st),some (.int Ps.length),some (.int c),some v5,some (fmV rules tabs c owed),some (.ref yl),none,none,none,none,none] Y (e8 Q) (xK X):=by
 have c8:=F.c8;have zz:=H.zz;rw[aa] at zz;have c60:j4 (c:Int):=by unfold j4;lia
 have ecm:(c:Int)*(Ps.length:Int)=((c*Ps.length:Nat):Int):=(bC _ _).symm;have hal:(as.map V.ref).length=Ps.length:=by rw[aa,H.pa.len,aa,aa]
 have st1:∀ {m:Int},HIn (upd Y st (.lst [.int m])) yl as (Ps.map g9):=fun{m}=>⟨ai7 H.hy hys,H.pa.stay (d9.upd (A:=[st]) (by k_extra "mem")) λa ha=>u1 (has a ha),H.cl,H.uz,H.zz⟩
 have hy:=H.hy;k_extra "w"
 ·rename_i r n' r0 r1 m0 m1 q1 q2 e he
  have hk:((Ps.length:Int)-1).toNat<Ps.length:=by rw[show((Ps.length:Int)-1).toNat=Ps.length-1 from Int.toNat_sub _ 1];exact Nat.sub_lt (by lia) Nat.one_pos
  generalize ((Ps.length:Int)-1).toNat=k at hk ⊢;have hey:e≠yl:=(j5 (ai7 H.hy hys) he).symm;have kk:d9 [st,yl] Y (upd (upd (upd Y st (.lst [.int n'])) e (.lst [A1 M0])) yl (.lst ((as.map V.ref).set k (.ref e)))):=((d9.upd (by k_extra "mem")).trans (d9.new he)).trans (d9.upd (by k_extra "mem"))
  have em:(as.map V.ref).set k (.ref e)=(as.set k e).map V.ref:=by rw[eZ]
  have H':HIn (upd (upd (upd Y st (.lst [.int n'])) e (.lst [A1 M0])) yl (.lst ((as.map V.ref).set k (.ref e)))) yl (as.set k e) ((Ps.map g9).set k [M0]):=by
   refine⟨by rw[em];exact d3 _ _ _,?_,λu hu=>?_,λu hu=>?_,by rw[bt];exact H.zz⟩
   ·rw[eZ]
    exact(H.pa.stay kk λa ha q=>by
     rcases am.mp q with q | q
     ·exact has a ha q
     ·exact bw9 H ha (ah.mp q)).set k (by rw[d8 _ _ hey];exact d3 _ _ _)
   ·rcases dx hu with q | rfl
    ·exact H.cl u q
    ·intro Y p hp;rw[ah.mp hp];exact⟨.str (by decide +kernel),.int _⟩
   ·rcases dx hu with q | rfl
    ·exact H.uz u q
    ·show 1<=1000;decide
  have nz':NZ (upd (upd (upd Y st (.lst [.int n'])) e (.lst [A1 M0])) yl (.lst ((as.map V.ref).set k (.ref e)))):=((nz.upd rfl).upd rfl).upd (em▸R9);have ll:((Ps.map g9).set k [M0]).length=Ps.length:=by rw[bt,aa]
  by_cases q:(c:Int)*(Ps.length:Int) > 8
  ·refine X8 1 _ (by rw[decide_eq_true q];rfl) rfl ?_
   rw[ecm] at q;exact ak0 (d:=d) N F H' nz' (.many (by rw[ll];lia)) λY'=>d4 (h _)
  ·refine X8 0 _ (by rw[decide_eq_false q];rfl) rfl ?_
   rw[ecm] at q;exact ak0 (d:=d) N F H' nz' (.paper (by rw[ll];lia) ⟨_,List.mem_set (by rw[aa];exact hk) _,cc1⟩) λY'=>d4 (h _)
 ·exact Stop.mk (aO2 N F st1 gp pz (nz.upd rfl) h)
 ·exact Stop.mk (aO2 N F st1 gp pz (nz.upd rfl) h)
end
section
variable{g:G}{d:Nat}{Y:Hp}{Q:V->Hp->Prop}{X:Str->Hp->Prop}{rules tabs:List V}{owed:Int}{rk:Int->Nat}{p la ta wl st:Addr}{c:Nat}{v0:V}{n cnt:Int}{ws:List Str}
structure PL(Y:Hp)(p la ta wl st:Addr)(rules tabs:List V)(c:Nat)(owed n:Int)(ws:List Str):Prop where
 hp:Y p=some (.lst [.ref la,.ref ta,.int c,.int owed,.ref wl])
 hla:Y la=some (.lst rules)
 hta:Y ta=some (.lst tabs)
 hwl:Y wl=some (.lst (ws.map .str))
 hst:Y st=some (.lst [.int n])
 n0:0<=n
 n1:n<2147483647
 a1:la≠p
 a2:la≠ta
 a3:la≠wl
 a4:la≠st
 a5:wl≠p
 a6:p≠st
 a7:wl≠st
 a8:ta≠st
 w8:ws.length<=8
 ww:∀ x∈ws,m5 x=true
theorem aa8(N:Nm g)(F:FG rules tabs c owed rk)(S:PL Y p la ta wl st rules tabs c owed n ws)(c0:0<=cnt)(c9:cnt<=9)(h:∀ Y',Q (.bool true) Y') :
  wSs g (d+18) true an8 [some v0,some (.ref p),some (.ref st),some (.int cnt),some (.int c),some (.ref la),none,none,none,none,none,none,none] Y (e8 Q) (xK X):=by
 obtain⟨hp,hla,hta,hwl,hst,n0,n1,a1,a2,a3,a4,a5,a6,a7,a8,w8,ww⟩:=S;have k60:j4 cnt:=by unfold j4;lia
 k_extra "w";refine bi8 (d:=d+4) N hla hta F.form ?_;refine Drop.mk (Y':=upd (upd (upd (λz_=>none) wl (.lst (ws.map .str))) p (.lst [.ref la,.ref ta,.int c,.int owed,.ref wl])) st (.lst [.int n])) (λb o e=>?_) ?_
 ·by_cases q:b=st
  ·rw[q,d3] at e;rw[q,hst];exact e
  ·rw[d8 _ _ q] at e
   by_cases q1:b=p
   ·rw[q1,d3] at e;rw[q1,hp];exact e
   ·rw[d8 _ _ q1] at e
    by_cases q2:b=wl
    ·rw[q2,d3] at e;rw[q2,hwl];exact e
    ·rw[d8 _ _ q2] at e;cases e
 have nz0:NZ (λz_=>none):=λa o e=>by cases e
 have nz:NZ (upd (upd (upd (λz_=>none) wl (.lst (ws.map .str))) p (.lst [.ref la,.ref ta,.int c,.int owed,.ref wl])) st (.lst [.int n])):=((nz0.upd bC5).upd rfl).upd rfl
 have wp:upd (upd (upd (λz_=>none) wl (.lst (ws.map .str))) p (.lst [.ref la,.ref ta,.int c,.int owed,.ref wl])) st (.lst [.int n]) p=some (.lst [.ref la,.ref ta,.int c,.int owed,.ref wl]):=by rw[d8 _ _ a6];exact d3 _ _ _
 have ww':upd (upd (upd (λz_=>none) wl (.lst (ws.map .str))) p (.lst [.ref la,.ref ta,.int c,.int owed,.ref wl])) st (.lst [.int n]) wl=some (.lst (ws.map .str)):=by rw[d8 _ _ a7,d8 _ _ a5];exact d3 _ _ _
 have ws':=d3 (upd (upd (λz_=>none) wl (.lst (ws.map .str))) p (.lst [.ref la,.ref ta,.int c,.int owed,.ref wl])) st (.lst [.int n])
 generalize upd (upd (upd (λz_=>none) wl (.lst (ws.map .str))) p (.lst [.ref la,.ref ta,.int c,.int owed,.ref wl])) st (.lst [.int n])=τ at nz wp ww' ws' ⊢
 k_extra "w";refine bd4 (λx=>∃ P,(GP P/\P.length<=100)/\x=(g9 P).map A1) c0 (by lia) nz ws' n0 n1 (λx hx=>?_) (λY' n v yes no hS hst n0 n1 hk=>?_) λY1 yl as Ls n' hS hst' m0 m1 hyl ny hP hl hR hn na=>?_
 ·refine a9 hx λP z_ q1_=>?_;try clear hx;subst q1_
  exact bM5
 ·have hp1:=hS p _ (u1 a6) wp
  have hw1:=hS wl _ (u1 a7) ww';k_extra "w";refine bG1 (d:=d+15) N hst n0 n1 hw1 a7 ww (by lia) λb P n2 b1 b2 gp pz g0 g1=>?_
  rw[ay8];exact hk b _ n2 b1 b2 ⟨P,⟨gp,by lia⟩,rfl⟩ g0 g1
 refine a9 (ch3 hR) λPs q1_ hPs=>?_;subst q1_
 rw[aa] at hl;obtain rfl:cnt=Ps.length:=hl.symm;refine Stop.mk (bY9 (Ps:=Ps) N F ⟨hyl,by rw[aZ];exact hP,λu hu Y=>?_,λu hu=>?_,by rw[aa];lia⟩ (λP hP=>(hPs P hP).1) (λP hP=>(hPs P hP).2) hn hst' m0 m1 ny na h)
 ·refine a9 (ai.mp hu) λP hP q1_=>?_;subst q1_
  exact bv9 (hPs P hP).1 Y
 ·refine a9 (ai.mp hu) λP hP q1_=>?_;subst q1_
  unfold g9;rw[aa];have:=(hPs P hP).2;lia
open Internal renaming E2->y29
theorem cl1:True:=by
 k_with "call"=>(refine y29 (by with_reducible assumption) (by k_extra "heap") (by with_reducible assumption) (by with_reducible assumption) (by k_extra "n") (by k_extra "n") ?_;intro _ _ _ _ _ _)
 trivial
set_option tactic.hygienic true in
theorem ab3(N:Nm g)(F:FG rules tabs c owed rk)(S:PL Y p la ta wl st rules tabs c owed n ws)(c0:0<=cnt)(c9:cnt<=9)(h:∀ Y',Q (.bool true) Y') :
  wSs g (d+18) true ap9 [some v0,some (.ref p),some (.ref st),some (.int cnt),some (.int c),none,none,none,none,none,none,none,none] Y (e8 Q) (xK X):=by
 have S':=S;obtain⟨hp,hla,hta,hwl,hst,n0,n1,a1,a2,a3,a4,a5,a6,a7,a8,w8,ww⟩:=S;have o0:=F.o0;have o1:=F.o1;have l40:=F.l40;have b1:=a1.symm;have b2:=a2.symm;have b3:=a3.symm;have b4:=a4.symm;k_extra "w"
 ·rename_i q1 r n' r0 r1 m0 m1 q2
  exact Stop.mk (aa8 (rules:=rules.set owed.toNat ai8) N (F.put (by lia)) ⟨by k_extra "heap",d3 _ _ _,by k_extra "heap",by k_extra "heap",by k_extra "heap",m0,m1,a1,a2,a3,a4,a5,a6,a7,a8,w8,ww⟩ c0 c9 h)
 ·rename_i q1 r n' r0 r1 m0 m1 q2
  exact Stop.mk (aa8 N F ⟨by k_extra "heap",by k_extra "heap",by k_extra "heap",by k_extra "heap",d3 _ _ _,m0,m1,a1,a2,a3,a4,a5,a6,a7,a8,w8,ww⟩ c0 c9 h)
 ·exact Stop.mk (aa8 N F S' c0 c9 h)
end
section
variable{g:G}{d:Nat}{Y:Hp}{Q:V->Hp->Prop}{X:Str->Hp->Prop}
open Internal renaming aH9->y30,av4->y31,E2->y32
theorem cl5:True:=by
 k_with "call"=>first | (refine y30 (by with_reducible assumption) (by with_reducible assumption) (by with_reducible assumption) (by k_extra "n") (by k_extra "n") ?_;intro _) | (refine y31 (by with_reducible assumption) (by k_extra "n") ?_;intro _ _ _) | (refine y32 (by with_reducible assumption) (by k_extra "heap") (by with_reducible assumption) (by with_reducible assumption) (by k_extra "n") (by k_extra "n") ?_;intro _ _ _ _ _ _)
 trivial
set_option tactic.hygienic true in
theorem cf2(N:Nm g){a:Addr}{ns:List Int}(hs:Scr g a ns)(hl:ns.length<=100)(h:∀ Y',Q (.bool true) Y'):c7 g (d+19) true "law" [.ref a] Y Q X:=by
 refine bL0 N ?_;k_extra "w";refine bl6 (d:=d+5) N hs hl (by decide) (by decide) λY1 p la ta wl rules tabs ws C owed rk hp hla hta hwl n1 n2 n3 hS F hm h5 h8 hw=>?_
 have c0:=F.c0;have c8:=F.c8;refine c6 (aT c0) λc q1_=>?_;subst q1_
 have c60:j4 (c:Int):=by unfold j4;lia
 have hne:wl≠p:=λe=>by
  rw[e,hp] at hwl;cases ws with
  | nil=>exact absurd h5 (by decide)
  | cons w ws=>cases hwl
 have mx:0<max (1:Int) c/\max (1:Int) c<2 ^ 64:=aT0 (by lia)
 k_extra "w";rename_i x y x0 x1 st hst r n' r0 r1 m0 m1;have a6:p≠st:=j5 hp hst;have a4:la≠st:=j5 hla hst;have a8:ta≠st:=j5 hta hst;have a7:wl≠st:=j5 hwl hst;k_extra "w"
 ·rename_i r2 m2 g0 g1 g2 g3 q2
  have e1:8 / max (1:Int) (c:Int)<=8:=Int.ediv_le_self _ (by decide)
  have e2:0<=8 / max (1:Int) (c:Int):=cP (by decide) (by lia)
  exact Stop.mk (ab3 (cnt:=1+8 / max (1:Int) (c:Int)) N F ⟨by k_extra "heap",by k_extra "heap",by k_extra "heap",by k_extra "heap",d3 _ _ _,g2,g3,n1,n2,n3,a4,hne,a6,a7,a8,h8,hw⟩ (by lia) (by lia) h)
 ·rename_i q1 r2 m2 g0 g1 g2 g3 q2
  have hc:0<(c:Int):=by
   rcases Nat.eq_zero_or_pos c with q | q
   ·rw[q] at q2
    have:0<=b2i (r2==1):=by cases(r2==1)<;>decide
    have e:((0:Nat):Int)*r=0:=Int.zero_mul r;rw[e] at q2;lia
   ·lia
  have e1:6 / (c:Int)<=6:=Int.ediv_le_self _ (by decide)
  have e2:0<=6 / (c:Int):=cP (by decide) (by lia)
  refine Req.mk ⟨hc,by lia⟩ ?_
  exact Stop.mk (ab3 (cnt:=6 / (c:Int)) N F ⟨by k_extra "heap",by k_extra "heap",by k_extra "heap",by k_extra "heap",d3 _ _ _,g2,g3,n1,n2,n3,a4,hne,a6,a7,a8,h8,hw⟩ e2 (by lia) h)
 ·rename_i q1 r2 m2 g0 g1 g2 g3 q2
  exact Stop.mk (ab3 (cnt:=r) N F ⟨by k_extra "heap",by k_extra "heap",by k_extra "heap",by k_extra "heap",d3 _ _ _,g2,g3,n1,n2,n3,a4,hne,a6,a7,a8,h8,hw⟩ r0 (by lia) h)
end
open PySem.W
theorem bH1{g:G}{a:Addr}{vs:List Value}{ns:List Int}(hl:g.h₀.IsList a vs.toArray)(hi:PyProof.Rows.IntsAre vs ns):Scr g a ns:=by
 refine⟨vs.toArray,hl,λh=>?_⟩
 rw[eN];clear hl;induction hi with
 | nil=>exact .nil
 | cons n t r ih=>exact .cons (.int n t) ih
theorem fin(l:OpenLaw){w:World}{sy sv:Shared}(g:G)(hp:g.prog=l.prog)(hw:g.w=w)(hh:g.h₀=sv.heap)(hg:sv.gens=#[]){fa a:Addr}{d:Nat}(hd:d<=100){f:Str}(hf:g.mg f=some (.ref fa))
  (c:c7 g d true f [.ref a] (λz_=>none) (λv z_=>v=.bool true) noX) {args:List WData} :
  wpAny (model l.row.prog w) callerA (call (.ref fa) [.ref a]) (λv s'=>GoodWG l.row.claim (classAt sy.heap) (ExcName.means sy.heap) args sv (.ok (.ret v)) s') (λe s'=>GoodWG l.row.claim (classAt sy.heap) (ExcName.means sy.heap) args sv (.error e) s') sv:=by
 subst hw;have e:l.row.prog=g.prog:=hp.symm;rw[e];refine enter_call (codeAny_mono (c callerA sv [.ref a] fa hf ?_ ?_ (λz_=>rfl) ⟨by rw[hh];exact λz_ z_ e=>e,λz_ z_ e=>by cases e⟩ (λz_ k_=>k_ [] rfl (λz_ h=>nomatch h)) (.cons (.ref a) .nil)) λr s' p=>?_)
 ·have:callerA.depth=301:=rfl
  have:recursionLimit=1000:=rfl
  omega
 ·have:callerA.units=4:=rfl
  have:cLine=9900:=rfl
  omega
 cases r with
 | error e=>refine p _ ?_;intro _ _ _ _ _ q;exact q.elim
 | ok f=>cases f with
  | ret v=>
   refine p _ ?_;intro V Y' rv sm st hv;subst hv;obtain rfl:=rv.ofBool;refine GoodW.toG ⟨.inl ⟨_,.bool true,[],rfl,λz_=>rfl,.bool true,?_,λz_=>⟨.nil,λz_ h=>nomatch h⟩⟩,λb o hb=>sm.stays b o (by rw[hh];exact hb),st.same.2,st.same.1.trans hg⟩
   with_unfolding_all rfl
  | _=>exact p.elim
noncomputable def aC6(e:DictEntry):Bool:=match e.key with
 | .str _ _=>true
 | _=>false
noncomputable def am5:List Str:="__init__" :: z8
noncomputable def nsB(es:Array DictEntry):Bool:=es.all aC6&&am5.all λn=>(nsFind es n).isNone
def W5(h:Heap)(N:Addr):Prop:=
 ∀ P_:Prop,(∀ (m:Str->Option Value) (hn:h.Ns N m) (hi:m "__init__" = none) (hc:∀ n∈z8,m n=none),P_)->P_
set_option tactic.hygienic true in
theorem u0{h:Heap}{N:Addr}{o:Obj}{es:Array DictEntry}{ep:Nat}(ho:h.get? N=some o)(hd:o.data=.dict es ep)(hb:nsB es=true):W5 h N:=by
 refine c5 ((aQ _ _).mp hb) λh1 h2=>?_
 have k:∀ n∈am5,nsFind es n=none:=λn hn=>bl.mp (aB.mp h2 n hn)
 refine(λ_ k_=>k_ (nsFind es) ⟨o,es,ep,ho,hd,λe he=>?_,λ_=>rfl⟩ (k _ (.head _)) (λn hn=>k n (.tail _ hn)))
 obtain⟨i,hi,rfl⟩:=Array.mem_iff_getElem.mp he;have:=Array.all_eq_true.mp h1 i hi;unfold aC6 at this
 split at this
 ·rename_i n t e;exact⟨n,t,e⟩
 ·cases this
section
variable{g:G}{x nm q nm' q':Str}{C N C' N':Addr}{bs bs' bm:List Value}{hdct hdct':Bool}{sn sn':List Str}{sub sub':List Value}{ab ab':Bool}{col col':Option Bool}{dd dd':Option Addr}{k0 k1 k2 k3 k5 k0' k1' k2' k3' k5':Option Value}{newId:String}
theorem bR2(hb:g.mg x=some (.ref C))(hC:g.h₀.get? C=some (excClassObj nm q C N bs vbm hdct sn sub ab col dd k0 k1 k2 k3 k5 "ValueError.__new__"))(hN:W5 g.h₀ N):XC g x C vbm:=by
 refine hN _ ?_;clear hN;rintro m hn hi hc;exact⟨hb,λz_ k_=>k_ N nm q bs hdct sn sub ab col dd k0 k1 k2 k3 k5 m hC hn hi hc .base .base⟩
theorem E6(hC':g.h₀.get? C'=some (excClassObj nm' q' C' N' bs' vbm hdct' sn' sub' ab' col' dd' k0' k1' k2' k3' k5' newId))(hN':W5 g.h₀ N')
  (hb:g.mg x=some (.ref C)) (hC:g.h₀.get? C=some (excClassObj nm q C N bs (.ref C'::vbm) hdct sn sub ab col dd k0 k1 k2 k3 k5 "ValueError.__new__")) (hN:W5 g.h₀ N):XC g x C (.ref C'::vbm):=by
 refine hN _ ?_;clear hN;rintro m hn hi hc;refine hN' _ ?_;clear hN';rintro m' hn' hi' hc';exact⟨hb,λz_ k_=>k_ N nm q bs hdct sn sub ab col dd k0 k1 k2 k3 k5 m hC hn hi hc (.own hC' hn' hi' .base) (.own hC' hn' hc' .base)⟩
end
end Internal
set_option maxHeartbeats 8000000
open PySem PySem.W PyProof.Rows
namespace Internal
noncomputable def bq0:List (Str×Nat×Int×Nat):=[("number",406,2,407),("paper",408,2,409),("line",410,2,411),("earlier",412,2,413),("add",414,3,415),("take",416,3,417),("least",418,3,419),("most",420,3,421),("part",422,3,423),("table",424,3,425),("where",426,4,427),("choose",428,4,429)]
theorem gd{w:World}{mg mb:Str->Option Value}{h:Heap}(g1:h.Ns mainGlobals mg)(g2:h.Ns builtinsNs mb)(g3:h.NoLimit)(K:(myK w.params).In h):Gd ⟨Challenge.pw_uf010038_09,w,h,mg,mb,g1,g2,g3⟩ (Str.ofString "SIZES") szs:=by
 refine⟨169,?_,?_⟩
 ·have h3:=K 3 _ rfl
  exact(C8 g1 h3 rfl _).trans (by kernel_rfl)
 ·exact bJ9 (n:=12) bq0 (by decide +kernel) (by decide +kernel) (K 169 _ rfl)
theorem bK3{w:World}{mg mb:Str->Option Value}{h:Heap}(g1:h.Ns mainGlobals mg)(g2:h.Ns builtinsNs mb)(g3:h.NoLimit)(K:(myK w.params).In h):XC ⟨Challenge.pw_uf010038_09,w,h,mg,mb,g1,g2,g3⟩ (Str.ofString "FormError") 24 vbm:=bR2 ((C8 g1 (K 3 _ rfl) rfl _).trans (by kernel_rfl)) (K 24 _ rfl) (u0 (K 23 _ rfl) rfl (by kernel_rfl))
theorem bX2{w:World}{mg mb:Str->Option Value}{h:Heap}(g1:h.Ns mainGlobals mg)(g2:h.Ns builtinsNs mb)(g3:h.NoLimit)(K:(myK w.params).In h):XC ⟨Challenge.pw_uf010038_09,w,h,mg,mb,g1,g2,g3⟩ (Str.ofString "NoTable") 37 (.ref 24::vbm):=E6 (K 24 _ rfl) (u0 (K 23 _ rfl) rfl (by kernel_rfl)) ((C8 g1 (K 3 _ rfl) rfl _).trans (by kernel_rfl)) (K 37 _ rfl) (u0 (K 36 _ rfl) rfl (by kernel_rfl))
theorem bZ7{w:World}{mg mb:Str->Option Value}{h:Heap}(g1:h.Ns mainGlobals mg)(g2:h.Ns builtinsNs mb)(g3:h.NoLimit)(K:(myK w.params).In h):XC ⟨Challenge.pw_uf010038_09,w,h,mg,mb,g1,g2,g3⟩ (Str.ofString "NoForm") 49 (.ref 24::vbm):=E6 (K 24 _ rfl) (u0 (K 23 _ rfl) rfl (by kernel_rfl)) ((C8 g1 (K 3 _ rfl) rfl _).trans (by kernel_rfl)) (K 49 _ rfl) (u0 (K 48 _ rfl) rfl (by kernel_rfl))
theorem bp0{w:World}{mg mb:Str->Option Value}{h:Heap}(g1:h.Ns mainGlobals mg)(g2:h.Ns builtinsNs mb)(g3:h.NoLimit)(K:(myK w.params).In h):XC ⟨Challenge.pw_uf010038_09,w,h,mg,mb,g1,g2,g3⟩ (Str.ofString "NoRule") 61 (.ref 24::vbm):=E6 (K 24 _ rfl) (u0 (K 23 _ rfl) rfl (by kernel_rfl)) ((C8 g1 (K 3 _ rfl) rfl _).trans (by kernel_rfl)) (K 61 _ rfl) (u0 (K 60 _ rfl) rfl (by kernel_rfl))
theorem bL6{w:World}{mg mb:Str->Option Value}{h:Heap}(g1:h.Ns mainGlobals mg)(g2:h.Ns builtinsNs mb)(g3:h.NoLimit)(K:(myK w.params).In h):XC ⟨Challenge.pw_uf010038_09,w,h,mg,mb,g1,g2,g3⟩ (Str.ofString "Ring") 73 (.ref 24::vbm):=E6 (K 24 _ rfl) (u0 (K 23 _ rfl) rfl (by kernel_rfl)) ((C8 g1 (K 3 _ rfl) rfl _).trans (by kernel_rfl)) (K 73 _ rfl) (u0 (K 72 _ rfl) rfl (by kernel_rfl))
theorem bQ6{w:World}{mg mb:Str->Option Value}{h:Heap}(g1:h.Ns mainGlobals mg)(g2:h.Ns builtinsNs mb)(g3:h.NoLimit)(K:(myK w.params).In h):XC ⟨Challenge.pw_uf010038_09,w,h,mg,mb,g1,g2,g3⟩ (Str.ofString "NoPaper") 85 (.ref 24::vbm):=E6 (K 24 _ rfl) (u0 (K 23 _ rfl) rfl (by kernel_rfl)) ((C8 g1 (K 3 _ rfl) rfl _).trans (by kernel_rfl)) (K 85 _ rfl) (u0 (K 84 _ rfl) rfl (by kernel_rfl))
theorem bp8{w:World}{mg mb:Str->Option Value}{h:Heap}(g1:h.Ns mainGlobals mg)(g2:h.Ns builtinsNs mb)(g3:h.NoLimit)(K:(myK w.params).In h):XC ⟨Challenge.pw_uf010038_09,w,h,mg,mb,g1,g2,g3⟩ (Str.ofString "NoYear") 97 (.ref 24::vbm):=E6 (K 24 _ rfl) (u0 (K 23 _ rfl) rfl (by kernel_rfl)) ((C8 g1 (K 3 _ rfl) rfl _).trans (by kernel_rfl)) (K 97 _ rfl) (u0 (K 96 _ rfl) rfl (by kernel_rfl))
theorem aR2{w:World}{mg mb:Str->Option Value}{h:Heap}(g1:h.Ns mainGlobals mg)(g2:h.Ns builtinsNs mb)(g3:h.NoLimit)(K:(myK w.params).In h):XC ⟨Challenge.pw_uf010038_09,w,h,mg,mb,g1,g2,g3⟩ (Str.ofString "NoLine") 109 (.ref 24::vbm):=E6 (K 24 _ rfl) (u0 (K 23 _ rfl) rfl (by kernel_rfl)) ((C8 g1 (K 3 _ rfl) rfl _).trans (by kernel_rfl)) (K 109 _ rfl) (u0 (K 108 _ rfl) rfl (by kernel_rfl))
theorem bM8{w:World}{mg mb:Str->Option Value}{h:Heap}(g1:h.Ns mainGlobals mg)(g2:h.Ns builtinsNs mb)(g3:h.NoLimit)(K:(myK w.params).In h):XC ⟨Challenge.pw_uf010038_09,w,h,mg,mb,g1,g2,g3⟩ (Str.ofString "NoChoice") 121 (.ref 24::vbm):=E6 (K 24 _ rfl) (u0 (K 23 _ rfl) rfl (by kernel_rfl)) ((C8 g1 (K 3 _ rfl) rfl _).trans (by kernel_rfl)) (K 121 _ rfl) (u0 (K 120 _ rfl) rfl (by kernel_rfl))
theorem aZ5{w:World}{mg mb:Str->Option Value}{h:Heap}(g1:h.Ns mainGlobals mg)(g2:h.Ns builtinsNs mb)(g3:h.NoLimit)(K:(myK w.params).In h):XC ⟨Challenge.pw_uf010038_09,w,h,mg,mb,g1,g2,g3⟩ (Str.ofString "TooMany") 133 (.ref 24::vbm):=E6 (K 24 _ rfl) (u0 (K 23 _ rfl) rfl (by kernel_rfl)) ((C8 g1 (K 3 _ rfl) rfl _).trans (by kernel_rfl)) (K 133 _ rfl) (u0 (K 132 _ rfl) rfl (by kernel_rfl))
noncomputable def fks:List Nat:=[14,15,16,17,18,24,25,26,27,28,29,30,35,36,37,38,39,41,42,43,44,45,46,47,50,51,52,53,55,56,57,58,59,60,61,62,63,64,65,66,67,68,69,70,71,72,73,74,75,76,77,78,79,80,81,82]
noncomputable def bT:Tab:=[(Str.ofString "ValueError",.ty "ValueError"),(Str.ofString "all",.bi "all"),(Str.ofString "bool",.ty "bool"),(Str.ofString "dict",.ty "dict"),(Str.ofString "int",.ty "int"),(Str.ofString "isinstance",.bi "isinstance"),(Str.ofString "len",.bi "len"),(Str.ofString "list",.ty "list"),(Str.ofString "max",.bi "max"),(Str.ofString "min",.bi "min"),(Str.ofString "range",.ty "range"),(Str.ofString "set",.ty "set"),(Str.ofString "sorted",.bi "sorted"),(Str.ofString "str",.ty "str"),(Str.ofString "sum",.bi "sum"),(Str.ofString "tuple",.ty "tuple"),(Str.ofString "zip",.ty "zip")]
theorem aX9:recsOf viw=fks.map (e9 Challenge.pw_uf010038_09):=by kernel_rfl
noncomputable def tR:Tab:=(Str.ofString "DEEPEST",.int 8)::(Str.ofString "FormError",.cls 24 (vbm))::(Str.ofString "GREATEST",.int 1000000000)::(Str.ofString "LETTERS",.str "abcdefghijklmnopqrstuvwxyz")::(Str.ofString "LONGEST",.int 8)::(Str.ofString "MOST_CHOICES",.int 8)::(Str.ofString "MOST_IN_ALL",.int 8)::(Str.ofString "MOST_LINES",.int 40)::(Str.ofString "MOST_ROWS",.int 20)::(Str.ofString "MOST_TABLES",.int 5)::(Str.ofString "NoChoice",.cls 121 (.ref 24::vbm))::(Str.ofString "NoForm",.cls 49 (.ref 24::vbm))::(Str.ofString "NoLine",.cls 109 (.ref 24::vbm))::(Str.ofString "NoPaper",.cls 85 (.ref 24::vbm))::(Str.ofString "NoRule",.cls 61 (.ref 24::vbm))::(Str.ofString "NoTable",.cls 37 (.ref 24::vbm))::(Str.ofString "NoYear",.cls 97 (.ref 24::vbm))::(Str.ofString "Ring",.cls 73 (.ref 24::vbm))::(Str.ofString "SIZES",.dict szs)::(Str.ofString "TooMany",.cls 133 (.ref 24::vbm))::bT
theorem bf2:fnT Challenge.pw_uf010038_09 fks++tR=tab:=by kernel_rfl
theorem Q9:∀ p∈bT,p.1∉startupNames/\p.1∉looseW viw [Str.ofString "SIZES"]/\p.1∉(recsOf viw).map (·.name)/\p.1∉(litsOf viw).map (·.1)/\p.1∉(clssOf viw (looseW viw [Str.ofString "SIZES"])).map (·.name):=by decide +kernel
theorem aV6:∀ p∈bT,p.1≠"__name__":=by decide +kernel
theorem bW3:∀ p∈bT,isB p.2=true:=by decide +kernel
theorem bD8:∀ p∈bT,bootBuiltins p.1=some (itV p.2):=List.map_inj_left.mp (show bT.map (λp=>bootBuiltins p.1)=bT.map (λp=>some (itV p.2)) by kernel_rfl)
set_option tactic.hygienic true in
theorem hdw:PySem.Challenge.rw_uf010038_09.Holds:=by
 w_on
 refine holds_law ab6 λab6=>?_
 refine holds_open (q:=viw) (loose:=[Str.ofString "SIZES"]) (Xt:=xt4) (XP:=XL viw []) (Yf:=Hook.obs (kHook myK [3,169,24,23,37,36,49,48,61,60,73,72,85,84,97,96,109,108,121,120,133,132] (λ_=>rfl))) (Ya:=Hook.val (kHook myK [3,169,24,23,37,36,49,48,61,60,73,72,85,84,97,96,109,108,121,120,133,132] (λ_=>rfl))) (YP:=Hook.says (kHook myK [3,169,24,23,37,36,49,48,61,60,73,72,85,84,97,96,109,108,121,120,133,132] (λ_=>rfl))) (d:=e9 Challenge.pw_uf010038_09 82) (kwd:=[]) (N:=5000) left (Hook.of (kHook myK [3,169,24,23,37,36,49,48,61,60,73,72,85,84,97,96,109,108,121,120,133,132] (λ_=>rfl))) (Hook.keeps (kHook myK [3,169,24,23,37,36,49,48,61,60,73,72,85,84,97,96,109,108,121,120,133,132] (λ_=>rfl))) (λs e=>xl_of s (aM.mp e).1) XL.keeps (by kernel_rfl) (by kernel_rfl) (by kernel_rfl) (λs e=>recFacts_of (aM.mp e).2) (by kernel_rfl) ab6 (by kernel_rfl) ⟨rfl,rfl,rfl,rfl,rfl,by decide +kernel⟩ ?hw ?hc
 case hw=>w_witness2
 intro w sy sv mg mb G Yb fa o pm cd doc dV kV ho hd hcd hD hmg hg args vals as hpre hlay hrd hwl hlo;have KX:=kIn_of Yb;refine Ground.open G ?_;intro T B D TE TW;clear hd hcd hD ho B D TE TW G Yb
 wrow_args hpre hlay hrd hwl hlo
 rename_i ns _ _ _ _ _ _ _ a vs _ hL _ _ _ hI _ hlen _;have gi:∀ x i,valOf viw x=some (.int i)->Gi ⟨Challenge.pw_uf010038_09,w,sv.heap,mg,mb,T.g,T.b,T.nolimit⟩ x i:=λx i hx=>by
  obtain⟨v,h1,h2⟩:=T.const x _ hx;cases h2 sv.heap;exact⟨_,h1⟩
 have gs:∀ x i,valOf viw x=some (.str i)->Gs ⟨Challenge.pw_uf010038_09,w,sv.heap,mg,mb,T.g,T.b,T.nolimit⟩ x i:=λx i hx=>by
  obtain⟨v,h1,h2⟩:=T.const x _ hx;cases h2 sv.heap;exact⟨_,h1⟩
 have N:TabOK ⟨Challenge.pw_uf010038_09,w,sv.heap,mg,mb,T.g,T.b,T.nolimit⟩ tR:=
  .cons (gi _ _ (by kernel_rfl)) <|
  .cons (bK3 T.g T.b T.nolimit KX) <|
  .cons (gi _ _ (by kernel_rfl)) <|
  .cons (gs _ _ (by kernel_rfl)) <|
  .cons (gi _ _ (by kernel_rfl)) <|
  .cons (gi _ _ (by kernel_rfl)) <|
  .cons (gi _ _ (by kernel_rfl)) <|
  .cons (gi _ _ (by kernel_rfl)) <|
  .cons (gi _ _ (by kernel_rfl)) <|
  .cons (gi _ _ (by kernel_rfl)) <|
  .cons (bM8 T.g T.b T.nolimit KX) <|
  .cons (bZ7 T.g T.b T.nolimit KX) <|
  .cons (aR2 T.g T.b T.nolimit KX) <|
  .cons (bQ6 T.g T.b T.nolimit KX) <|
  .cons (bp0 T.g T.b T.nolimit KX) <|
  .cons (bX2 T.g T.b T.nolimit KX) <|
  .cons (bp8 T.g T.b T.nolimit KX) <|
  .cons (bL6 T.g T.b T.nolimit KX) <|
  .cons (gd T.g T.b T.nolimit KX) <|
  .cons (aZ5 T.g T.b T.nolimit KX) <|
  TabOK.bis (λp hp=>⟨T.free p.1 (Q9 p hp).1 (Q9 p hp).2.1 (Q9 p hp).2.2.1 (Q9 p hp).2.2.2.1 (Q9 p hp).2.2.2.2,(T.builtins p.1 (aV6 p hp)).trans (bD8 p hp)⟩) bW3
 have N:=TabOK.fns (ks:=fks) (λk hk=>by obtain⟨a,o,pm,code,doc,h1,h2,h3,h4⟩:=T.fn _ (show e9 Challenge.pw_uf010038_09 k∈recsOf viw from aX9▸ai.mpr ⟨k,hk,rfl⟩);exact⟨λ_ k_=>k_ a o pm code doc h1 h2 h3 h4⟩) N
 have N:Nm ⟨Challenge.pw_uf010038_09,w,sv.heap,mg,mb,T.g,T.b,T.nolimit⟩:=⟨rfl,bf2▸N⟩;exact Internal.fin PySem.Challenge.rw_uf010038_09 ⟨Challenge.pw_uf010038_09,w,sv.heap,mg,mb,T.g,T.b,T.nolimit⟩ rfl rfl rfl hg (d:=19) (by decide) hmg (Internal.cf2 (d:=0) N (Internal.bH1 hL hI) (by omega) λ_=>rfl)
end Internal
theorem PySem.Challenge.cw_uf010038_09_holds : PySem.Challenge.rw_uf010038_09.Holds :=
 Internal.hdw