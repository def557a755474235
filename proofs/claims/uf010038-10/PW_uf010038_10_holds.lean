import PyProof.Rows.All
import PyProof.Raises
import PyProof.Calls
import PyProof.RulesRaise
import PyProof.Rules2
import PyProof.AssignAttr
import PyProof.Ns1
import PyProof.Ends
import PyProof.Rows.Frame
import PyProof.AttrMissSeq
import PyProof.Rules3
import PyProof.SeqI
import PyProof.CallRoads
import PyProof.Cells
import PyProof.CompMap
import PyProof.CompUse
import PyProof.ConsumeWalk
import PyProof.WalksS
import PyProof.CollectWalk
import PyProof.StrLoop
import PyProof.StrWalks
import PyProof.CompFree
import PyProof.PureInt
import PyProof.Conv_int_bool
import PyProof.DefCall
import PyProof.Dict
import PyProof.MeetsSeq
import PyProof.ListOps
import PyProof.DictKinds
import PyProof.DictList
import PyProof.DictRoads
import PyProof.DictCalls
import PyProof.DictStraight
import PyProof.DictDisplay
import PyProof.DictItems
import PyProof.DictTable
import PyProof.NeData
import PyProof.ExcArgsOwn
import PyProof.ExcBaseAll.ValueError
import PyProof.RaisesMany
import PyProof.StationsW
import PyProof.StrLawsIn
import PyProof.SliceStr2
import PyProof.StrBlock
import PyProof.RangeIter
import PyProof.WalksMore
import PyProof.RangeFor
import PyProof.IsInstance
import PyProof.IsiHeapPairs
import PyProof.IsiNone
import PyProof.IsiPairs
import PyProof.IsiTupleOf
import PyProof.LetGo
import PyProof.ListCopy
import PyProof.ListIndexNeg
import PyProof.ListRange
import PyProof.RulesAs
import PyProof.P3In
import PyProof.Rows.Tup
import PyProof.Rows.TupAssign
import PyProof.Rows.TupSub
import PyProof.Rows.StrInSeq
import PyProof.Rows.DictRows
import PyProof.StrLawsIdx
import PyProof.SetKind
import PyProof.ZipIter
import PyProof.TupleCall
import PyProof.Rows.Own
import PyProof.Rows.Exc
import PyProof.Rows.Chain
import PyProof.Rows.RuleB_pow
import PyProof.Rows.RuleB_floordiv
import PyProof.Rows.RuleB_mod
import PyProof.Rows.StrTemp
import PyProof.Rows.ListMul
import PyProof.SeqI3
import PyProof.Rows.TupMore
import PyProof.SliceMore
import PyProof.Rows.StrRules
import PyProof.Rows.Walk
import PyProof.SumAny
import PyProof.Rows.MaxTwoN
import PyProof.Rows.TupAdd
import PyProof.TupleOfSeq
import PyProof.Rows.SortShell
import PyProof.Rows.SortWalk
import PyProof.Rows.Range3
import PyProof.Rows.SortStr
import PyProof.SetRoads
import PyProof.Rows.SetFrom
import OpenK.KMake
import Open.Line
import OpenK.KWalk
import Open.Boot
import Open.Tree
import OpenK.KWith
import KE.KDictOf
import KE.KItemsList
import KE.KSortTup
import Wide.All
import PySem.Challenge.RW_uf010038_10
open PySem.Str renaming ofString->aa
open Nat renaming le_trans->aj,le_of_eq->aG,le_refl->aV,lt_of_lt_of_le->aX,zero_le->aY,le_add_left->aZ,lt_of_le_of_lt->bA,succ_add->bL,le_of_lt->bN,ne_of_lt->bR,le_of_not_lt->bU,le_of_lt_succ->cz,min_le_left->cB,le_add_right->cC,add_le_add_left->cM,add_le_add_right->cQ,succ_le_succ->cU,le_antisymm->dB,ne_of_gt->dF,not_lt->dJ,lt_succ_self->dO,not_lt_zero->dX,add_assoc->dZ,lt_irrefl->eE,min_le_right->eV,lt_trans->eX,sub_eq_zero_iff_le->fO,lt_succ_of_le->fP,add_min_add_right->fV,add_le_add->fY,le_succ->gn,mul_le_mul_left->gq,min_eq_left->gB,sub_self->gG,le_succ_of_le->gM,le_of_succ_le_succ->gW,min_eq_right->ig,succ_ne_zero->ik,add_comm->iD,zero_add->iJ,strongRecOn->iQ,eq_or_lt_of_le->jc,sub_add_cancel->jd,lt_succ_of_lt->jk,max_le->jn,succ_lt_succ->ju,le_max_right->jA,lt_succ_iff_lt_or_eq->jD,lt_add_of_pos_right->jH,lt_of_add_right_lt->jQ,le_add_right_of_le->jR,sub_eq_zero_of_le->kI,mul_le_mul->kY,add_right_cancel->lB,le_sub_of_add_le->lD,min_self->lV
open List renaming getElem?_eq_getElem->ak,length_map->aq,mem_cons->au,mem_singleton->aA,getElem?_map->aB,replicate->aC,getElem?_eq_some_iff->aF,mem_append->aH,length_append->aK,mem_of_getElem?->aL,mem_map->aM,map_append->aN,getD_eq_getElem?_getD->aP,all_eq_true->bc,range->bh,mem_append_right->bk,mem_append_left->bu,not_mem_nil->bw,isEmpty_iff->bx,length_cons->bD,append_assoc->bH,append_nil->bI,length_replicate->bK,length_range->bO,mem_cons_of_mem->bV,mem_range->bY,length_set->bZ,nodup_append->cA,lookup_cons->cD,getElem?_append_right->cH,getElem?_eq_none->cO,map_map->cR,getElem_mem->cT,length_eq_zero_iff->cY,size_toArray->cZ,mem_or_eq_of_mem_set->dq,mem_cons_self->du,filter_cons->dw,map_inj_left->dz,nodup_cons->dC,mem_filter->dD,filter_append->dI,getElem?_range->dK,mem_map_of_mem->dM,map_congr_left->dN,mem_replicate->dU,range_succ->dY,map_cons->eF,mem_of_mem_take->eG,getElem?_append_left->eH,drop_eq_getElem_cons->eN,mem_of_find?_eq_some->eQ,length_take->eZ,any_eq_true->fj,getElem_of_mem->fu,elem_iff->fG,find?_cons->fK,contains_cons->fL,map_replicate->fM,take_add_one->fQ,getElem?_set->fU,mem_iff_getElem?->fX,length_singleton->gf,forall_mem_cons->gh,take_length->gj,replicate_succ->gA,pairwise_iff_getElem->gC,foldl_cons->gD,ext_getElem?->gO,flatten_cons->gP,take_of_length_le->gV,length_drop->ie,mem_flatten->il,nodup_range->ir,append_inj'->iu,length_filter_le->iy,contains_iff_mem->iz,length_reverse->iU,filter_eq_self->iV,lookup->iY,mem_filterMap->iZ,length_eraseIdx_of_lt->jf,all_cons->jh,getElem_inj->jr,drop_length->jt,filterMap_cons_some->jx,map_fst_zip->jy,map_snd_zip->jz,all_map->jC,map_set->jE,getElem?_replicate->jG,mem_singleton_self->jJ,length_nil->jN,find?_some->jO,getElem?_set_self->jP,drop_of_length_le->jU,pairwise_lt_range->jV,range'->jW,length_eq_one_iff->jX,flatMap_singleton->kh,eq_nil_or_concat->kJ,concat_eq_append->kW,getElem?_set_ne->kZ,length_take_le'->lg,pairwise_append->lq,foldl->lw,mem_of_mem_drop->lA,replicate_succ'->lC,toList_toArray->lG,length_flatten->lH,filter_sublist->lJ,flatMap_append->lK,length_take_le->lL,any_map->lQ
open Bool renaming false_ne_true->az,and_eq_true_iff->bF,and_eq_true->cG,or_eq_true->fJ,false_xor->fZ,and_false->gb,true_xor->gm,false_and->gJ,true_and->jg,eq_iff_iff->jM,not_not->lO
open PySem.Heap renaming get?_push_of_some->aD,get?_push_size->aO,lt_size->bC,get?_update_self->dG,get?_some_iff->fH,get?_update_other->gQ,get?_update_ne->iT,size_push->km
open Array renaming length_toList->aJ,getElem?_toList->aU,getElem?_eq_getElem->cj,getElem?_eq_some_iff->cP,toList_push->gK,getElem?_eq_none->gU,getElem?_mapIdx->iw,toArray_toList->iK,mem_toList_iff->iR,any_toList->jw,find?_toList->lR
open Int renaming ofNat_lt->aQ,le_trans->aW,ofNat_le->bj,natCast_nonneg->bB,lt_of_le_of_lt->bG,zero_add->bJ,eq_ofNat_of_zero_le->bM,toNat_of_nonneg->bQ,le_sub_one_of_lt->cI,lt_trans->cL,toNat_natCast->dg,emod_nonneg->dh,emod_lt_of_pos->dH,lt_of_le_sub_one->eO,le_of_lt->eU,toNat_le->fW,le_add_of_nonneg_right->gk,lt_of_lt_of_le->gF,le_refl->gR,ofNat_inj->gY,max_eq_right->gZ,toNat_lt->iC,le_of_eq->iG,sub_nonneg_of_le->iI,ne_of_gt->iM,add_nonneg->iW,add_lt_of_lt_sub_right->je,zero_le_ofNat->ji,sub_pos_of_lt->jj,not_lt->jl,add_lt_of_lt_sub_left->jo,sub_lt_self->jK,min_eq_left->jL,sub_zero->lM
open Option renaming map_eq_some_iff->aR,isNone_iff_eq_none->cV,isSome_iff_exists->cX,some_ne_none->gw,map_some->iH,elim->jT,map_eq_none_iff->jY
open PySem.Obj renaming mapSeq->bW
open Classical renaming byContradiction->cu
open PySem.Calls renaming callWith_builtin->cJ,loadGlobal_global->fB,call_function_entry->jm,callWith_function->jF,call_len_list->lE
open PyProof.Rows renaming slot_tuple_getitem->iB,slicePart_none->jb,bindName_->jZ,tail_any->kj
open Eq renaming symm->jq
open Decidable renaming em->jB
open PySem renaming wpAny_bind->lW,wpAny_pure->lX,wpAny_mono->lY,wpAny_Call_ofName->lZ,wpAny_newObj_type->mj,codeAny_mono->mq,wpAny_holding->my,wpAny_isInstance->mC,plainId_quiet->mD,starEach->mF,foldedForSure->mG,constantsAlone->mH
open PySem.Challenge renaming pw_uf010038_10->mJ
set_option Elab.async false
set_option linter.all false
set_option bootstrap.genMatcherCode false
set_option tactic.hygienic false
namespace Internal
theorem kq:True:=by
 k_with"#"=>decide +kernel
 trivial
noncomputable section
variable{A:Around}{h':Heap}{s sw:Shared}{tk D slot:Nat}{env:Env}{fr own q':Addr->Prop}{E:Value->Shared->Prop}{U Us:List (List (Str×Int))}{pos apos:Pos}{TO st pa ma ra sa:Addr}{scope sc:Scope}{St:Nat->Heap->Prop}{ifs:List Expr}{α:Type}{T Ts:List (List Bool)}{prog:Program}{bmB bm:List Value}{os:OsState}{osl:Array (Option Value)}{rs qs pds mks rws:List Addr}{ws:List Str}{ns:List Int}{ow:Int}
theorem kwd:True:=by
 k_with"e"=>rcases au.mp ha with e | ha
 k_with"f"=>refine u9 (u0 hc) λn as np p qa hc1=>?_;clear hc;subst qa
 k_with"g"=>refine i5 ((b9 hc1).imp id b9) λh1 h2 h3=>?_;clear hc1
 k_with"j"=>obtain⟨h1,h2,h3,h4,h5,h6⟩:=(b9 hc3).imp id λh=>(b9 h).imp id λh=>(b9 h).imp id λh=>(b9 h).imp id b9;clear hc3
 k_with"k"=>rcases hm with ⟨rfl,hn⟩ | ⟨rfl,hn⟩ | ⟨rfl,hn⟩ | ⟨rfl,hn⟩ | ⟨rfl,hn⟩ | ⟨rfl,hn⟩ | ⟨rfl,hn⟩ | ⟨rfl,hn⟩ | ⟨rfl,hn⟩ | ⟨rfl,hn⟩ | ⟨rfl,hn⟩ | ⟨rfl,hn⟩
 k_with"o"=>k_extra"w";refine ih p.N (aj (aG (bL n 1).symm) p.d) hr ?_;k_extra"w";refine ih p.N (aj (aG (bL n 1).symm) p.d) ht ?_;k_extra"w"
 k_with"p"=>refine Q _ ?_;clear Q;rintro a vs z T oT ts e1 - - - - - - -;refine z _ ?_;clear z
 k_with"q"=>refine u6 p.N (p.dd (by decide)) W (by decide) (by decide) λr2 τ' h0 h1 W S1=>?_
 k_with"r"=>exact p.h (h _ _ (.twor (by k_extra"m") ho hone) (by assumption) (by assumption))
 k_with"t"=>exact p.h (h _ _ (.twol (by k_extra"m") hone ho) (by assumption) (by assumption))
 k_with"u"=>obtain⟨a,rfl⟩:=z7 (l:=args) (by first | exact hn | exact B3 hn | (simp only[bD] at hn;lia))
 k_with"v"=>k_extra"w";refine A.m (by k_extra"#") (V6 p.N (p.dd (by decide)) A (Di zz lr) okv (λq=>?_) (λq=>p.x (hy (by rw[<- lr];exact q))))
 k_with"x"=>obtain⟨h1,h2,h3,h4⟩:=(b9 hc1).imp id λh=>(b9 h).imp id b9;clear hc1
 k_with"A"=>apply N8 hc;intro t u w hc1;refine a7 (p7 hc1) λn e2 hc2=>?_;clear hc1
 k_with"B"=>exact Stop.mk (Cg p hne (d6 _ _ _) (by k_extra"h") hRl (by assumption) (by assumption) λnum s2 n2 Z3 q0 q1 q2 q3 q4 q5 q6 q7 q8=>(hJ (fin _ num s2 n2 Z3 _ _ (by decide) (by decide) q0 q1 q2 q3 q4 q5 q6 q7 (((hSt.trans m9.l).trans m9.l).trans q8))))
 k_with"C"=>exact⟨⟨x.same.1,x.same.2⟩,λb o hb=>a7 (x.dom b o hb) λo' ho' d=>⟨o',e _ _ (ne _ _ hb) ho',d⟩,λb o hb hZ ho=>a7 (x.keep b o hb hZ ho) λo' ho' d=>⟨o',e _ _ (ne _ _ hb) ho',d⟩,λb vs n hb=>e _ _ (ne _ _ hb) (x.tups b vs n hb),x.new⟩
 k_with"D"=>refine bd N Ja2 (by k_extra"b") hD λcx p=>?_
 k_with"E"=>refine i5 ((b9 hc1).imp id b9) λh1 h2 hc2=>?_;clear hc1
 k_with"F"=>obtain rfl:d2=[]:=by cases d2 with | nil=>rfl | cons _ _=>cases e2
 k_with"G"=>have e:us.size=l.length:=by rw[<- rl.length,aJ]
 k_with"H"=>exact⟨by k_extra"#",.str (by k_extra"#")⟩
 k_with"I"=>have hw:=S1 _ _ (j9 hwl) hw;clear S1
 k_with"J"=>exact hq _ _ _ _ (by assumption) (by assumption) (by exact Ly (by assumption)) (by lia) (by assumption) (by assumption) (d6 _ _ _) (by k_extra"h") (((m9.l.trans m9.r).trans m9.l).trans (m9.l.trans m9.l))
 k_with"K"=>intro o l p hc1;obtain rfl:=f4 (b9 hc1).1;refine v8 (an4 (b9 hc1).2) λl r es qa hc2=>?_;clear hc1;subst qa
 k_with"L"=>have e0:(0:Int)+(i:Int)=i:=bJ _;rw[e0]
 k_with"M"=>apply O2 hc;intro f as ks p hc1;refine d5 (b9 hc1) λh0 hc2=>?_;clear hc1
 k_with"N"=>obtain rfl:=r0.ofRef;refine a7 ((I.sim.objs a _ hZ).1) λus hp rl=>?_
 k_with"O"=>refine a7 r.one λz_ qa r0=>?_;subst qa
 k_with"P"=>refine Idx.mk (by k_extra"n") (by k_extra"n") (by k_extra"n") λx hx=>a7 (Dp hx) λi hi qa=>?_
 k_with"Q"=>have hT:=ak hi;have hU:Us[i]?=some (Us[i]'(lu▸hi)):=ak _;generalize Ts[i]=T at hT;generalize Us[i]'_=u at hU;obtain⟨a,ha,hau⟩:=pa.get (j:=i) (x:=u.map tS) (by rw[aB,hU];rfl)
 k_with"R"=>exact p.h (h _ _ (.part hone (by k_extra"n") (by k_extra"n")) (by assumption) (by assumption))
 k_with"S"=>rintro _ _ u;refine u _ ?_;clear u;rintro f os rfl hr hf hl rfl
 k_with"T"=>apply abP (x:=x)
 k_with"U"=>apply aq0 O;intro l o r p hc1;refine a7 (p7 hc1) λo' qa hc2=>?_;clear hc1;subst qa
 k_with"V"=>have lr:rws.length=T.length:=by rw[A.ro.len,G5]
 k_with"W"=>rcases au.mp ha with q | ha
 k_with"X"=>refine⟨trivial,?_⟩
 k_with"Y"=>rcases au.mp z with z | z
 k_with"Z"=>refine g8 r.ofCons λv us qa r1 r2=>?_
 k_with"0"=>refine(λz_ k_=>k_ e0 l ha hf (λv hv=>(all v hv) _ ?_))
 k_with"1"=>k_extra"w";refine A.m (by k_extra"#") (V6 p.N (p.dd (by decide)) A (by exact VF lr zz) okv (λq=>?_) (λq=>p.x (hy (by rw[<- lr];exact q))))
 k_with"2"=>rintro _ _ w;refine w _ ?_;clear w;rintro o1 o2 rfl rfl
 k_with"3"=>rintro _ _ Ja;refine Ja _ ?_;clear Ja;rintro o1 o2 rfl rfl
 k_with"4"=>rw[show H.get? _=_ from K] at D;replace D:=d7 D;subst D;rw[Ja] at O;cases O
 k_with"5"=>refine a7 (p7 hc2) λr qa hc3=>?_;clear hc2;subst qa
 k_with"6"=>obtain⟨h1,h2,h3,h4⟩:=(b9 hc3).imp id λh=>(b9 h).imp id b9;clear hc3
 k_with"7"=>refine p _ ?_;clear p
 k_with"8"=>obtain⟨rfl,d1,d2,e1,e2,rfl⟩:=hh
 k_with"9"=>obtain rfl:todo=[]:=by cases todo with | nil=>rfl | cons _ _=>cases e2
 k_with"aa"=>k_extra"w";refine i8 y _ ey qa (by exact Y4 zz lp (by assumption)) ?_
 k_with"ab"=>refine d5 (List.cons.inj e2) λqa qb=>?_;subst qa
 k_with"ac"=>refine d4 ry.ofInt λz_ qa=>?_;subst qa
 k_with"ad"=>intro e l hc;refine i5 ((b9 hc).imp id b9) λh1 h2 h3=>?_;clear hc
 k_with"ae"=>obtain⟨x,rfl⟩:=z7 (l:=args) (by exact B3 hn)
 k_with"af"=>have hw:=S1 _ _ (j9 hwl) hw;have hwa:=S1 _ _ (j9 hwn) hwa;clear S1
 k_with"ag"=>obtain⟨xs',⟨na',oa'⟩,rl'⟩:=(I'.sim.objs a _ K.la).1;obtain⟨ys',⟨nb',ob'⟩,rm'⟩:=(I'.sim.objs b _ K.lb).1
 k_with"ah"=>have hoL:(s'.heap.push (seqObj "list" vs.toArray 0)).get? s'.heap.objs.size=some (seqObj "list" vs.toArray 0):=aO _ rfl
 k_with"ai"=>refine ih (min (k+1) 2-1) V4 p.N (yD p.d) (wC he) (BR hm) (by assumption) (by assumption) λthird n4 ht hn4 hn4'=>?_
 k_with"aj"=>refine d5 (p9 h1) λk1 k2=>?_;clear h1
 k_with"ak"=>obtain rfl:ks=[]:=bx.mp h0;apply H8 (x:=f) hc2
 k_with"al"=>have kx:=hx x (by k_extra"m")
 k_with"am"=>show((s.heap.push (seqObj "list" #[] 0)).update s.heap.objs.size (bW (· ++ items.toList.toArray))).get? b=some o
 k_with"an"=>refine pgo (h2 A R s₂ a b sy (ra.mono T.tups) rb) (λc s₃ Vc w rc I3 Za h3=>?_) λz_ z_ p=>(p.step T).step C
 k_with"ao"=>k_extra"p";rintro C₁ oe a0 rfl n b hs ho hc hx1 hd' h0;obtain rfl:C₁=C:=by rw[hx.bound] at hx1;cases hx1;rfl
 k_with"ap"=>k_extra"w";all_goals exact p.h h
 k_with"aq"=>refine f6 (t8 hf) λi qa h0 h1=>?_;clear hn;clear hf;subst qa
 k_with"ar"=>obtain rfl:y=y':=Int.ofNat.inj (ey.symm.trans (V.int.inj e1))
 k_with"as"=>rcases O1 e2 with ⟨q2,e2⟩ | ⟨q2,rfl⟩
 k_with"at"=>rcases au.mp hc' with rfl | hc'
 k_with"au"=>simp only[au,bw,or_false] at hx
 k_with"av"=>k_extra"T";intro u P;obtain⟨⟨l,o',r⟩,e,hc1⟩:=i7 hc;clear hc;refine d4 (Cd e) λp' qa=>?_;subst qa
 k_with"aw"=>k_extra"w";refine i8 _ _ eb (K7 λb=>V.ref (K.s b).x) K8 ?_
 k_with"ax"=>exact d4 (Ja.loc.live y c hc) λv hv=>⟨v,Cell.kept hv λo ho=>⟨o,hl c o (.inr ⟨y,hc⟩) ho,rfl⟩⟩
 k_with"ay"=>refine lZ (I.nB hk hd hb.1 hb.2 ?_)
 k_with"az"=>rintro _ Z' hh;refine hh _ ?_;clear hh;rintro done todo n R o7 o8 e1 e2 hst' h0 h1 hla' P hsl' hG hS rfl
 k_with"aA"=>have ne:∀ a o,Z a=some o->a≠env.locals:=λa o e q=>by rw[q,I.loc.free _ (.inl rfl)] at e;exact f8 e
 k_with"aB"=>refine a7 (t8 hf) λi e z_=>?_
 k_with"aC"=>unfold Builtin.Str.strSliceIndices;simp only[show((1:Int) > 0)=True from eq_true (by decide),if_true]
 k_with"aD"=>refine Y8 (zE ok) λhcell hkind hloc hx hnd hfr hjs=>?_
 k_with"aE"=>k_extra"w";refine H1 p.N (p.dd (by decide)) e z0 z1 (by decide) (by decide) λr z' r0 r1 z0' z1'=>?_
 k_with"aF"=>refine i5 ((b9 hc2).imp id b9) λk3 h4 h5=>?_;clear hc2
 k_with"aG"=>obtain⟨a,b,rfl⟩:=H6 (l:=args) (by first | exact hn | exact L9 hn | (simp only[bD] at hn;lia))
 k_with"aH"=>rcases au.mp hx with rfl | hx
 k_with"aI"=>rcases aH.mp hx with q | q
 k_with"aJ"=>refine d5 (List.cons.inj e2) λe3 qa=>?_
 k_with"aK"=>refine A.papers (ItR.l (LookR.mk _ A.hp (i8 y (.ref c) rfl (by rw[aB,hc];rfl) (M9 zz hy') ?_)))
 k_with"aL"=>rename_i O;rw[if_pos O] at h;exact(λ_ k_=>k_ _ Z (.int _ _) (I.keep st (I.sim.grow hk)) st h)
 k_with"aM"=>refine a7 (p7 hc2) λr' qa hc3=>?_;clear hc2;subst qa
 k_with"aN"=>apply Zu O;intro l r p hc1;obtain rfl:=f4 (b9 hc1).1
 k_with"aO"=>refine i6 (z9 h3) λe ty qa hc2=>?_;clear h3;subst qa
 k_with"aP"=>obtain⟨h1,h2,h3,h4,h5⟩:=(b9 hc1).imp id λh=>(b9 h).imp id λh=>(b9 h).imp id b9;clear hc1
 k_with"aQ"=>refine jm kind_sorted plain_sorted entry_sorted (args_sorted1 _) ?_;unfold Builtin.«sorted»
 k_with"aR"=>obtain⟨x,rfl⟩:=z7 (l:=args) (B3 hn)
 k_with"aS"=>obtain⟨hi',e1⟩:=aF.mp hi;obtain⟨hj',e2⟩:=aF.mp hj;exact(jr hn).mp (e1.trans e2.symm)
 k_with"aT"=>exact(hs'.2 b (λq=>by rw[q,I.base _ (.inl rfl)] at e;exact f8 e)).trans (I.sim.stays b o e)
 k_with"aU"=>rw[show env.kindOf y=F.sc.names.lookup y from by unfold Env.kindOf;rw[I.scope],this] at hkd
 k_with"aV"=>have hl':s.heap.IsList a us:=by refine a7 hl λo ho q=>?_;exact⟨o,I.sim.stays _ _ ho,q⟩
 k_with"aW"=>have hne:a≠s.heap.objs.size:=λq=>by refine d4 hp λc hc=>?_;rw[q,hfr] at hc;exact f8 hc
 k_with"aX"=>obtain⟨hy,ht,pa,ba,lu,gp,uz,tz,zz⟩:=H;have la:as.length=Ts.length:=by rw[pa.len,aq,lu]
 k_with"aY"=>rw[lr] at q;k_extra"w";refine A.form ?_;k_extra"w";refine F7 p.N (p.dd (by decide)) okk ?_
 k_with"aZ"=>have lp:((v b).ps.map V.ref).length=(v b).B.length:=by rw[aq,H.pS.len,aq,H.pm.len,H.Y.lu]
 k_with"a0"=>show wpAny _ _ (if ((i:Int)==0&&(1:Int)==1&&(j-i)==items.size)=true then _ else _) _ _ s
 k_with"a1"=>refine P _ ?_;have hs:∀ env,mF [e] env=[(false,eval e env)]:=λenv=>v7 (m6 (b9 hc6).1)
 k_with"a2"=>refine a7 (R4 q) λy qa hy'=>?_
 k_with"a3"=>simp only[au,bw,or_false] at hv
 k_with"a4"=>obtain rfl:n=nm:=f4 h1;obtain⟨y,hy⟩:=cX.mp h3;clear h3;refine d4 (B9 hy) λnp e=>?_
 k_with"a5"=>refine lY (hex A env s3 I3) (λfl s4 p4=>p4 _ ?_) λe s4 p=>kE _ _ (qR (p.step st13))
 k_with"a6"=>refine j8 r0.ofTup λa us n qa ht rl=>?_;subst qa
 k_with"a7"=>simp only[szs,au,Prod.mk.injEq,bw,or_false] at hm
 k_with"a8"=>refine Lx p.N (by k_extra"d") S (by k_extra"n") (by k_extra"n") λr n' hr hn hn'=>?_
 k_with"a9"=>rintro _ Z' I;refine I _ ?_;clear I;rintro ea cs o1 o2 o3 o4 S hn hf hP he A L nw rfl
 k_with"ba"=>simp only[au,bw,or_false] at a
 k_with"bb"=>rintro _ Z' I;refine I _ ?_;clear I;rintro R A E L F hl Y M C hs Za hn T y Ja hSt rfl
 k_with"bc"=>have e:vs.size=l.length:=by rw[<- rl.length,aJ]
 k_with"bd"=>simp at hx;subst hx;exact .inr (.inl ⟨i,e⟩)
 k_with"be"=>have e0:kvs.length=L.length:=by have:=congrArg List.length r.1;rwa[aq,aq] at this
 k_with"bf"=>k_extra"X";k_extra"w";refine p.h ?_
 k_with"bg"=>refine IdxS.mk (by k_extra"n") (by rw[h26];assumption) (by k_extra"n") λc hc=>?_
 k_with"bh"=>subst qa;k_extra"w";exact p.h (h _ _ (.paper hi) (by assumption) (by assumption))
 k_with"bi"=>exact d4 (I.loc.live y c hc) λv hv=>⟨v,hv.sameBut hs' (I.loc.other y c hc)⟩
 k_with"bj"=>rw[X4 hst] at this;exact this
 k_with"bk"=>intro g D r v Z Q X N hD hr hc h;refine bd N Zo (by k_extra"b") hD λcx p=>?_
 k_with"bl"=>rintro _ _ C;refine Qd C λws n k a hl O M Za Ja K=>?_;clear C;subst Ja;subst K
 k_with"bm"=>refine bd N aq7 (by k_extra"b") hD λcx p=>?_
 k_with"bn"=>rintro _ _ hh;refine I5 hh λA B o e1 e2 qa qb=>?_;clear hh;subst qa;subst qb
 k_with"bo"=>k_extra"w";refine i8 j _ rfl (I0 hj) (by exact vJ l40 lr (by assumption)) ?_
 k_with"bp"=>k_extra"w";refine Ec p.N (p.dd (by decide)) (by unfold s5;lia) λz z0 z1=>?_
 k_with"bq"=>have hp:(backTo pos (mF [e,.Name t tp] env)).any (·.1)=false:=by rw[he];rfl
 k_with"br"=>obtain rfl:=r0.ofRef
 k_with"bs"=>rw[e8 _ _ (λz=>q (by rw[z];exact .head _))]
 k_with"bt"=>refine x _ ?_;clear x
 k_with"bu"=>obtain rfl:=r.ofRef
 k_with"bv"=>have hall:∀ i,i<rh.length->(i:Int)∈F:=λi hi=>cu λq=>hno ⟨i,hi,q⟩
 k_with"bw"=>exact hJ (λ_ k_=>k_ _ _ rfl hr' (by rw[gD,Hm q] at hf;exact hf) rfl rfl)
 k_with"bx"=>exact hJ (λ_ k_=>k_ _ _ rfl hr' (by rw[gD,Mq q] at hf;exact hf) rfl rfl)
 k_with"by"=>rintro _ _ I;refine I _ ?_;clear I;rintro done todo M o e1 e2 hl E rfl rfl
 k_with"bz"=>rename_i z hz b hb;rw[KJ];exact k _ b _ (Sub.upd hz) (λq=>q.upd rfl) hb
 k_with"bA"=>rintro _ _ C;refine I5 C λc F o hc hp Ja qb=>?_;clear C;subst Ja;subst qb
 k_with"bB"=>rintro _ _ O;refine x5 O λY F R y H A Ja qb=>?_;clear O;subst Ja;subst qb
 k_with"bC"=>rcases au.mp hc with q | hc
 k_with"bD"=>rcases au.mp hq with z | hq
 k_with"bE"=>rintro _ _ I;refine x5 I λc L o O Ja hL E S=>?_;clear I;subst Ja;subst S
 k_with"bF"=>obtain⟨b,hb,hbt⟩:=ba.get (j:=i) (x:=T.map .bool) (by rw[aB,hT];rfl)
 k_with"bG"=>show(relabel scope env).names.lookup x=_;exact lookup_relabel_local hx
 k_with"bH"=>have st:Step (inF A) f5 Z Z s {s with heap:=h',toks:=tk}:=Step.grow hk
 k_with"bI"=>obtain⟨x,y,rfl⟩:=H6 (l:=args) (L9 hn)
 k_with"bJ"=>rintro N nm q bs hdct sn sub ab col dd k0 k1 k2 k3 k5 mN hC hN hni-T -
 k_with"bK"=>have q:=(aF.mp e).1;rw[<- h.len] at q;exact⟨_,ak q,h.at' (ak q) e⟩
 k_with"bL"=>k_extra"w";refine i8 i _ rfl qa (by exact O7 zz lb (by assumption)) ?_
 k_with"bM"=>rintro N nm q bs hdct sn sub ab col dd k0 k1 k2 k3 k5 mN hC hN-hmN-T
 k_with"bN"=>k_extra"w";refine NQ (by k_extra"d") ?_
 k_with"bO"=>rcases aH.mp hc with z | z
 k_with"bP"=>obtain⟨v,h1,h2⟩:=T.const x _ hx;cases h2 sw.heap;exact⟨_,h1⟩
 k_with"bQ"=>replace e:=d7 e;subst e
 k_with"bR"=>k_extra"w";rename_i b Y
 k_with"bS"=>rintro _ _ y;refine y _ ?_;clear y;rintro done todo o e1 e2 rfl rfl
 k_with"bT"=>k_extra"w";refine i8 j _ rfl (I0 hj) (vJ hm lr (by assumption)) ?_
 k_with"bU"=>rw[if_neg (show ¬ ((Value.ref T==Value.none)=true) from by simp)]
 k_with"bV"=>refine d4 ru.ofStr λz_ qa=>?_;subst qa
 k_with"bW"=>rintro _ Z3 I;refine I _ ?_;clear I;rintro H G o2 o3 E P u c M rfl
 k_with"bX"=>have hp:(backTo pos (mF [e] env)).any (·.1)=false:=by rw[he];rfl
 k_with"bY"=>have e:((us.size:Nat):Int)=(l.length:Int):=by rw[<- rl.length,aJ]
 k_with"bZ"=>exact hJ2 (λ_ k_=>k_ none _ (by dsimp only;rw[V7,Jx q,bH]) rfl)
 k_with"b0"=>exact hJ2 (λ_ k_=>k_ none _ (by dsimp only;rw[V7,Lw q,bI]) rfl)
 k_with"b1"=>rintro n s' hh;refine hh _ ?_;clear hh
 k_with"b2"=>rcases au.mp q with q | q
 k_with"b3"=>refine d5 (p9 h1) λh6 h7=>?_;clear h1
 k_with"b4"=>refine S _ ?_;clear S;rintro P cs o1 o2 A Ja hf hP he L E Y K rfl
 k_with"b5"=>rintro _ Z' c;refine MK c λv qs C E W A Ja=>?_;clear c;subst Ja
 k_with"b6"=>refine d4 (ao1 e) λp qa=>?_;subst qa
 k_with"b7"=>refine u9 (u0 hc3) λm bs mp p' qa hc4=>?_;clear hc3;subst qa
 k_with"b8"=>rintro F _ u;refine i5 u λJa y z_=>?_;clear u;subst Ja;subst y
 k_with"b9"=>exact⟨o,(hs'.2 b hb).trans e,id⟩
 k_with"ca"=>have hsA2:upd Z D (.di L) sA=none:=by rw[e8 _ _ hne];exact I
 k_with"cb"=>rintro _ Z' Ja;refine Ja _ ?_;clear Ja;rintro P M O W Za u rfl
 k_with"cc"=>k_extra"w";refine i8 _ _ eb (K7 λb=>V.ref (K.s b).m) K8 ?_
 k_with"cd"=>k_extra"w";exact hN ⟨rfl,rfl,λx hx=>hr x (.tail _ hx)⟩
 k_with"ce"=>rcases a with rfl | rfl | rfl | rfl
 k_with"cf"=>have hr':∀ x∈rest,t9 x=true:=λx hx=>hr x (.tail _ hx)
 k_with"cg"=>refine z _ ?_;clear z
 k_with"ch"=>have hlt:j<J.length:=by rw[I.loc.len];exact(aF.mp hj').1
 k_with"ci"=>rw[if_pos rfl] at e2;rw[hc] at e1;have e1:=d7 e1;subst e1
 k_with"cj"=>rcases aH.mp ha with e | ha
 k_with"ck"=>obtain⟨o2,e2,k2⟩:=keep b o1 e1 (by rw[e];exact gw _)
 k_with"cl"=>refine i6 (z9 hc1) λo1 o2 qa hc2=>?_;clear hc1;subst qa
 k_with"cm"=>refine i6 (z9 hc2) λr1 r2 qa hc3=>?_;clear hc2;subst qa
 k_with"cn"=>obtain rfl:=f4 h1;refine d5 (p9 h2) λh5 h6=>?_;clear h2
 k_with"co"=>refine i5 ((b9 hc3).imp id b9) λh1 h2 hc4=>?_;clear hc3
 k_with"cp"=>refine i5 ((b9 hc4).imp id b9) λh3 h4 hc5=>?_;clear hc4
 k_with"cq"=>rintro f U _ H;refine f6 H λM S A O=>?_;clear H;subst S
 k_with"cr"=>refine d4 (ok.ok a rfl) λl hl=>?_
 k_with"cs"=>have hz2:(rs.map V.ref).length=nm.length:=by rw[aq,hrl]
 k_with"ct"=>rintro _ C H;refine i6 H λo3 P L Ja=>?_;clear H;subst Ja
 k_with"cu"=>refine H _ ?_;clear H;rintro I d2 bs e1 e2 rfl w O u nw
 k_with"cv"=>obtain⟨z1,z2⟩:=bF.mp z;obtain⟨z2,z3⟩:=bF.mp z2
 k_with"cw"=>k_extra"w";rename_i e Za;refine xN (by k_extra"d") ?_
 k_with"cx"=>obtain⟨a,b,c,rfl,c0,c1⟩:=X8 (hr v (by k_extra"m"))
 k_with"cy"=>rw[aB] at h;refine a7 (aR.mp h) λb hb qa=>?_;subst qa
 k_with"cz"=>rcases aH.mp hc with q | q
 k_with"cA"=>rcases aH.mp ha with e | e
 k_with"cB"=>obtain rfl:y=y':=Int.ofNat.inj (V.int.inj e1);clear e1
 k_with"cC"=>have e:(vs.toList++us.toList).toArray=vs++us:=by simp
 k_with"cD"=>k_extra"bf";have e:f=atN (.tup l) n:=hf;rw[e];exact h
 k_with"cE"=>have:=(x.objs _ o q).1;refine d4 this.has λob e=>?_
 k_with"cF"=>obtain rfl:=rx.ofRef
 k_with"cG"=>refine a7 (p7 hc5) λe qa hc6=>?_;clear hc5;subst qa
 k_with"cH"=>exact q (by rw[z];exact .head _)
 k_with"cI"=>obtain⟨vs,⟨n,ho⟩,rl⟩:=(I.sim.objs a _ hZ).1
 k_with"cJ"=>have hFl:F.length<=63:=cz (bA (E4 hp.nd hp.sub) hl)
 k_with"cK"=>refine v8 (X8 (hr x hx)) λa b c qa z_=>?_;subst qa
 k_with"cL"=>refine E _ ?_;clear E;rintro I d2 O e1 e2 rfl w S y
 k_with"cM"=>rintro _ u;refine i5 u λJa y hr=>?_;clear u;subst Ja
 k_with"cN"=>refine a7 rs.one λz_ qa r0=>?_
 k_with"cO"=>have e:=Value.ref.inj (d7 (hC.symm.trans c.bound))
 k_with"cP"=>k_extra"T";intro y P;k_extra"f"
 k_with"cQ"=>obtain⟨x,y,rfl⟩:=H6 (l:=args) (by exact L9 hn)
 k_with"cR"=>rintro _ E Ja;refine F9 Ja λo3 I H A qa=>?_;clear Ja
 k_with"cS"=>obtain rfl:k=i:=Int.ofNat.inj (List.cons.inj e2).1
 k_with"cT"=>refine k _ ?_;clear k;rintro ys a ⟨n,b⟩ q d f
 k_with"cU"=>have hlen:vs.length=ps.length:=by rw[r.length,aq]
 k_with"cV"=>k_extra"a2";clear okv;clear hy;clear okk;subst qa
 k_with"cW"=>refine bdn N J2 (by k_extra"b") hD λcx p pn=>?_
 k_with"cX"=>rw[e];exact .tail _ (.tail _ (.tail _ (.head _)))
 k_with"cY"=>rcases y with ⟨e,y⟩ | ⟨e,c,r,hc,hcell,y⟩
 k_with"cZ"=>have e1:vs.size=l.length:=by rw[<- rl.length,aJ]
 k_with"c0"=>have e2:us.size=k.length:=by rw[<- rk.length,aJ]
 k_with"c1"=>refine j8 r.ofTup λa us n qa ht rl=>?_;subst qa
 k_with"c2"=>have hfr:s.heap.get? s.heap.objs.size=none:=u7 _
 k_with"c3"=>refine d5 (I.sim.objs a o (d6 _ _ _)) λr hb=>?_
 k_with"c4"=>obtain⟨a,rfl,x,e,h⟩:=s9 (show m5 _ v from h)
 k_with"c5"=>refine i6 (Hi hT h2) λas ms oc hn=>?_;clear h2
 k_with"c6"=>refine f6 W.hst λz ez _ _=>?_
 k_with"c7"=>k_extra"I";k_extra"w"
 k_with"c8"=>rcases hv with rfl | rfl | rfl | rfl | rfl | rfl
 k_with"c9"=>refine g8 r.ofCons λv us qa r1 rs=>?_;subst qa
 k_with"da"=>refine g8 r.ofCons λu us qa r1 r2=>?_;subst qa
 k_with"db"=>refine a7 r.one λz_ qa r0=>?_;clear r;subst qa
 k_with"dc"=>refine List.ext_getElem (by simp) λi h1 h2=>?_
 k_with"dd"=>rw[if_pos (h.len▸R)] at C;rw[<- d7 E,<- d7 C]
 k_with"de"=>k_extra"w";refine Gz p.N (p.dd (by decide)) ?_
 k_with"df"=>rcases D j u hu with ⟨rfl,rfl⟩ | ⟨T,Ja⟩
 k_with"dg"=>k_extra"cg";rintro C Ja a0 rfl n b H P O hx F M
 k_with"dh"=>exact .inr (.inl ⟨i,rfl⟩)
 k_with"di"=>refine a7 (I.sim.objs x _ hx).1 λC' hC ho=>?_
 k_with"dj"=>obtain⟨⟨l0,o0,r0⟩,e1,hf⟩:=i7 h;clear h
 k_with"dk"=>replace P:=d7 P;subst P
 k_with"dl"=>refine g8 r.two λz_ z_ qa r0 r'=>?_;subst qa
 k_with"dm"=>refine F9 (mX h) λm qa z_ z_ hi=>?_;subst qa
 k_with"dn"=>rintro _ _ hh;obtain⟨rfl,h1,h2,o,rfl⟩:=hh
 k_with"do"=>have lb:bs.length=Ts.length:=by rw[ba.len,aq]
 trivial
theorem f4{p:Prop}[Decidable p](h:decide p=true):p:=of_decide_eq_true h
theorem l_1(Za:a=b+1):b<=a:=Nat.le.intro (id (jq Za))
theorem l_2{b:Nat}(Za:a<=b)(S:¬a<b):a=b:=dB Za (dJ.mp S)
theorem l_3(Za:a+b=c+1)(S:a<=c):a+1+(b-1)=c+1:=by cases b with | zero=>exact absurd (aG Za.symm) (Nat.not_le.mpr (fP S)) | succ b=>exact(Nat.succ_add_eq_add_succ a b).trans Za
theorem l_4(Za:a+b=c+1)(S:a<=c):b-1<b:=by cases b with | zero=>exact absurd (aG Za.symm) (Nat.not_le.mpr (fP S)) | succ b=>exact dO _
theorem l_5{c d e:Nat}(Za:a<=b)(S:c<=d)(L:d<a)(X:e=c):e<=b:=X▸aj S (aj (bN L) Za)
theorem l_6{c d e:Nat}(Za:a+b<=c)(S:d=a)(L:e=b):d+e<=c:=by simp[*];done
theorem l_7{b c:Nat}(Za:a<=b)(S:c=a):c<=b:=le_of_eq_of_le S Za
theorem l_8{a:Int}(Za:a<=2 ^ 60):a<2 ^ 64:=bG Za (by decide)
theorem l_9(Za : -2 ^ 60<=a) : -2 ^ 64<a:=gF (by decide) Za
theorem XJ{b:Nat}(Za:¬a<b):b<=a:=bU Za
theorem U8{a:Int}{b:Nat}(Za:0<=a)(S:a<b):a.toNat<b:=(iC Za).mpr S
theorem wA(Za:a-b=c+1):a-(b+1)=c:=by rw[Nat.sub_add_eq,Za];rfl
theorem zA(Za:a-b=c+1):b<a:=Nat.lt_of_sub_eq_succ Za
theorem xD(Za:a-b=0)(S:b<=a):b=a:=dB S (fO.mp Za)
theorem rE{b c:Nat}(Za:a=b)(S:c<b):c<a:=by subst_vars;assumption
theorem aZ9(Za:a<=b)(S:¬a<=c)(L:0=b):False:=S (aj (L▸Za) (aY _))
theorem vp{a:Nat}:¬(↑a:Int)<0:=Int.not_ofNat_neg a
theorem Az(Za:a+1<=8*b)(S:c+8*b<d):c+1+a<d:=bA (by rw[dZ,iD 1];exact cM Za _) S
theorem Oj(Za:min a b+1<=8*c)(S:d+8*c<e):d+min (a+1) (b+1)<e:=bA (by rw[fV];exact cM Za _) S
theorem CN(Za:a<=8*b)(S:c+8*b<d):c+a<d:=bA (cM Za _) S
theorem De{a:Nat}:0+a*1=(↑(0+a):Int):=bJ (↑a*1)
theorem Fe : -(2:Int) ^ (60:Nat)<=(0:Int)/\(0:Int)<=(2:Int) ^ (60:Nat):=by decide
theorem Ma{a:Nat}{b:Int}(Za:a<=10000)(S:0<=b)(L:b<a) : -9223372036854775808<=b/\b<9223372036854775808:=⟨aW (by decide) S,cL L (bG (bj.mpr Za) (by decide))⟩
theorem CZ{a:Int}{b:Nat}(Za:a<=b):min a.toNat b=a.toNat:=by simp[*];done
theorem Zt{a:Nat}{b:Int}(Za:a<=10000)(S:0<=b)(L:b<=a) : -9223372036854775808<=b/\b<9223372036854775808:=⟨aW (by decide) S,bG L (bG (bj.mpr Za) (by decide))⟩
theorem yQ{b:Nat}(Za:a=b):b<=a:=aG (id (jq Za))
theorem UJ(Za:a+(b+1)<c):a+1+b<c:=by rw[Nat.add_right_comm];exact Za
theorem Eu{b:Nat}(Za:a<b):a≠b:=bR Za
theorem cl7(Za:a<b):0<(↑b:Int)-(↑a:Int):=by simp[*];done
theorem wy{a:Int}(Za:0<=a):0<=a+1:=Int.le_add_one Za
theorem Eb(Za:a<=4)(S:b<a):b<4:=aX S Za
theorem nY{a:Nat}(Za:(↑a:Int)+1=4):a=3:=Nat.succ.inj (gY.mp Za)
theorem L9{a:Nat}(Za:(↑a:Int)+1=3):a=2:=Nat.succ.inj (gY.mp Za)
theorem B3{a:Nat}(Za:(↑a:Int)+1=2):a=1:=Nat.succ.inj (gY.mp Za)
theorem Rw(Za:a=0)(S:b=0):max a b=0:=Za.symm▸S
theorem bg0{b c:Nat}(Za:a=b)(S:b<=c):a<=min b c:=by simp[*];done
theorem ca9(Za:a=b+4∨a=b+3∨a=b∨a=b+1):b<=a:=by rcases Za with rfl | rfl | rfl | rfl<;>first | exact aV _ | exact cC ..
theorem qM{a:Nat}(Za:1<=(↑a:Int)):1<=a:=aQ.mp Za
theorem yE(Za:a<=40)(S:b=a)(L:0+(↑c:Int)<(↑b:Int))(X:d<=e)(E:f<=c)(P:e<=8*40):d+f<=10000:=by subst S;lia
theorem xR{b c:Nat}(Za:a<=8)(S:b=a)(L:0+(↑c:Int)<(↑b:Int)):c<=8:=aj (bN (aQ.mp (bJ (c:Int)▸L))) (aj (aG S) (aj Za (by decide)))
theorem vJ{b c:Nat}(Za:a<=40)(S:b=a)(L:0+(↑c:Int)<(↑b:Int)):c<=100:=aj (bN (aQ.mp (bJ (c:Int)▸L))) (aj (aG S) (aj Za (by decide)))
theorem O7{b c:Nat}(Za:a<=8)(S:b=a)(L:0+(↑c:Int)<(↑b:Int)):c<=100:=aj (bN (aQ.mp (bJ (c:Int)▸L))) (aj (aG S) (aj Za (by decide)))
theorem nA{b c:Nat}(Za:a=b)(S:0+(↑c:Int)<(↑a:Int)):c<b:=Za▸aQ.mp (bJ (c:Int)▸S)
theorem nq(Za:a<=100):a<=10000:=aj Za (aZ ..)
theorem M9(Za:a<=8)(S:b<a):b<=100:=aj (bN S) (aj Za (by decide))
theorem Di(Za:a<=8)(S:b=a):b<=100:=aj (aG S) (aj Za (by decide))
theorem xK(Za:a<=1000):a<=10000:=aj Za (aZ ..)
theorem wu{a:Nat}(Za:a<=8):(↑a:Int)-0<=10000:=bj.mpr (aj Za (by decide))
theorem BX{a:Nat}{b:Int}(Za:a<=40)(S:b<a):b.toNat<=100:=aj (fW.mpr (eU S)) (aj Za (by decide))
theorem bc6(Za:a<9)(S:b=9):a<b:=by subst_vars;assumption
theorem co7{a:Int}(Za:a<4):a.toNat<4:=by simp[*];done
theorem pZ{a b:Nat}(Za:(↑a:Int)<(↑b:Int)):a<b:=aQ.mp Za
theorem Dj{a:Nat}(Za:a<=8):(↑a:Int)<2 ^ 60:=aQ.mpr (bA Za (by decide))
theorem Cj{a:Nat}(Za:1<=a):0<(↑a:Int):=aQ.mpr Za
theorem BK{a:Int}(Za:a<b):a<=b-1:=cI Za
theorem wJ{a:Int}(Za:0<=a):1<=(1+a).toNat:=by lia
theorem C1{a:Nat}:0<=(↑a:Int):=bB a
theorem Ah{b:Nat}(Za:a<b):(↑a:Int)<=(↑b:Int)-1:=cI (aQ.mpr Za)
theorem sG{a:Nat}{b:Int}(Za:a=b)(S:b<=8):a<=100:=bj.mp (aW (iG Za) (aW S (by decide)))
theorem PK{a c:Nat}{b:Int}(Za:a<b)(S:c=b):a<c:=aQ.mp (S▸Za)
theorem rU(Za:a<=8):a<=100:=aj Za (aZ ..)
theorem Ff(Za:a<8990):a<9000:=aj Za (aZ ..)
theorem vW(Za:a<=1)(S:3<=b):a+2<=8*b:=aj (cQ Za 2) (aj S (Nat.le_mul_of_pos_left _ (by decide)))
theorem Y4{b c:Nat}(Za:a<=8)(S:b=a)(L:(↑c:Int)<(↑b:Int)):c<=100:=aj (bN (aQ.mp L)) (aj (aG S) (aj Za (by decide)))
theorem yV(Za:a=b)(S:(↑c:Int)<(↑a:Int)):(↑c:Int)<=(↑b:Int)-1:=Za▸cI S
theorem Am{b c:Nat}(Za:a=b)(S:(↑c:Int)<(↑a:Int)):c<b:=aQ.mp (Za▸S)
theorem NP{b:Nat}(Za:a=b)(S:1<=b):0<(↑a:Int):=Za▸aQ.mpr S
theorem QM{b:Nat}(Za:1<=a)(S:b=a):0<(↑b:Int):=S▸aQ.mpr Za
theorem xu(Za:a<8940):a<8950:=aj Za (aZ ..)
theorem uM(Za:a<=40):a<=100:=aj Za (aZ ..)
theorem VB(Za:a=b)(S:0+(↑c:Int)<(↑b:Int)):0+(↑c:Int)<(↑a:Int):=by subst_vars;assumption
theorem Tu{b c:Nat}(Za:a<b)(S:c=b):a<c:=S▸Za
theorem Aa(Za:0+(↑a:Int)<(↑b:Int)):(↑a:Int)<(↑b:Int):=bJ (a:Int)▸Za
theorem xg(Za:a<=100)(S:a=b)(L:c<=b):c<=10000:=aj L (aj (aG S.symm) (aj Za (by decide)))
theorem xG{a:Nat}(Za:(↑a:Int)<=20):a<=20:=bj.mp Za
theorem JM{b c:Nat}(Za:a=b)(S:3+(↑c:Int)<(↑a:Int)):3+c<b:=aQ.mp (Za▸S)
theorem XM(Za:0<=a/\a<b-6):7+a<=b:=by lia
theorem QZ(Za:0<=a/\a<b-6):1<=7+a:=by lia
theorem EY(Za:a<=100)(S:b=a):b<=10000:=aj (aG S) (aj Za (by decide))
theorem Jm{b c:Nat}(Za:a=b)(S:c<a):(↑c:Int)<(↑b:Int):=Za▸aQ.mpr S
theorem Yi{b:Nat}(Za:(↑a:Int)<=5)(S:b=a):b<=5:=bj.mp (S▸Za)
theorem xx{a:Nat}:((↑a:Int)-0).toNat=a:=Nat.add_zero a
theorem Cz{a:Int}{b c:Nat}(Za:a<=40)(S:b<=a)(L:c=b):c<=100:=aj (aG L) (bj.mp (aW S (aW Za (by decide))))
theorem uT{b c:Nat}(Za:a=b)(S:(↑c:Int)<(↑b:Int)):c<a:=aQ.mp (Za▸S)
theorem Ab(Za:5<=a):1<=a:=Nat.one_le_of_lt Za
theorem vZ{a:Int}(Za:a<=8):a<=100:=aW Za (by decide)
theorem Ar(Za:(↑a:Int)<=5):(↑a:Int)<=100:=aW Za (by decide)
theorem Be(Za:a<=40)(S:(↑b:Int)<=a):(↑b:Int)<=100:=aW S (aW Za (by decide))
theorem Bs{a:Int}(Za:0<=a):1<=1+a:=gk Za
theorem Oo{b:Nat}(Za:a<=8)(S:a=(↑(b+1):Int)):b+1<=8:=bj.mp (S▸Za)
theorem bH5{b:Nat}(Za:a<=8)(S:a=(↑(b+1):Int)):b<8:=bj.mp (S▸Za)
theorem Ly{b:Int}(Za:0<=a):b+1<=b+1+a:=gk Za
theorem Fq{a b:Nat}(Za:0+(↑a:Int)<(↑b:Int)):a<b:=aQ.mp (bJ (a:Int)▸Za)
theorem Du{b:Int}{c:Nat}(Za:a<b)(S:c=b)(L:c<=100):a<2 ^ 63:=cL Za (bG (iG S.symm) (bG (bj.mpr L) (by decide)))
theorem OD{c d:Nat}(Za:a<b)(S:c=b)(L:d=c):a<d:=by simp[*];done
theorem Rd{c d:Int}(Za:a=b)(S:c<d)(L:b=d):c<a:=by subst_vars;assumption
theorem rB(Za:a<b+1)(S:¬a=b):a<b:=Nat.lt_of_le_of_ne (cz Za) S
theorem Rz{b c:Nat}(Za:a=b)(S:(↑a:Int)<(↑c:Int)):b<c:=aQ.mp (Za▸S)
theorem CW{a:Nat}{b c:Int}(Za:a=b)(S:a<=100)(L:c<b):c<2 ^ 63:=cL L (bG (iG Za.symm) (bG (bj.mpr S) (by decide)))
theorem YK{b d:Int}(Za:a=b)(S:c=a)(L:d<b):d<c:=by simp[*];done
theorem xV{b c:Nat}(Za:a<=100)(S:b=a)(L:0+(↑c:Int)<(↑b:Int)):c<=100:=aj (bN (aQ.mp (bJ (c:Int)▸L))) (aj (aG S) (aj Za (by decide)))
theorem Lg(Za:(↑a:Int)<2 ^ 63):¬(↑a:Int)≥2 ^ 63:=(fun{a b}=>Int.not_le.mpr) Za
theorem VF(Za:a=b)(S:b<=8):a<=100:=aj (aG Za) (aj S (by decide))
theorem DG{b c:Nat}{d:Prop}(Za:a=b)(S:a<c)(L:b=c):d:=absurd S (dJ.mpr (aG (L.symm.trans Za.symm)))
theorem Fp{b c:Nat}{d:Prop}(Za:a<b)(S:a=c)(L:b=c):d:=absurd Za (dJ.mpr (aG (L.trans S.symm)))
theorem wk(Za:a<=8)(S:b=a):b<=10000:=aj (aG S) (aj Za (by decide))
theorem YC(h1:a=(2:Nat)+((3:Int)-(0:Int)).toNat):(5:Nat)<=a+b:=Nat.le.intro (congrFun (congrArg HAdd.hAdd (id (jq h1))) b)
theorem VM{c d:Nat}(Za:a<8950)(S:(↑b:Int)<5)(L:0+(↑c:Int)<(↑b:Int))(X:d<=a+2*c):d<8990:=bA X (aX (Nat.add_lt_add_of_lt_of_le Za (gq 2 (bN (aQ.mp (cL (bJ (c:Int)▸L) S))))) (by decide))
theorem Uw{a:Nat}:0<=0+(↑a:Int):=ji (0+a)
theorem WF{c:Int}(Za:a=b)(S:c.toNat<b):c.toNat<a:=by subst_vars;assumption
theorem Sy(Za:a=b)(S:0+(↑c:Int)<(↑a:Int)):(↑c:Int)<(↑b:Int):=(Za▸bJ (c:Int)▸S:_)
theorem Tz{a:Nat}(Za:a<=100)(S:0+(↑b:Int)<(↑a:Int)):(↑b:Int)<2 ^ 63:=cL (bJ (b:Int)▸S) (bG (bj.mpr Za) (by decide))
theorem MP{c d:Nat}(Za:a=b)(S:c=b)(L:0+(↑d:Int)<(↑c:Int)):d<a:=aQ.mp (by rw[Za,<- S];exact bJ (d:Int)▸L)
theorem cj3(Za:0+(↑a:Int)<(↑b:Int)-1):(↑a:Int)+1<(↑b:Int):=je (bJ (a:Int)▸Za)
theorem VG{a:Nat}:0<=(↑a:Int)+1:=ji (a+1)
theorem bt3(Za:0+(↑a:Int)<(↑b:Int)-1):(↑a:Int)<(↑b:Int):=cL (bJ (a:Int)▸Za) (jK _ (by decide))
theorem bd9{a b:Nat}(Za:0+(↑a:Int)<(↑b:Int)-1):a+1<b:=aQ.mp (je (bJ (a:Int)▸Za))
theorem Ia{a b:Nat}(Za:0+(↑a:Int)<(↑b:Int)-1):a<b:=aQ.mp (cL (bJ (a:Int)▸Za) (jK _ (by decide)))
theorem wi(Za:a<=63):a<=100:=aj Za (aZ ..)
theorem ZR{b c:Nat}(Za:a<=100)(S:b=a)(L:0+(↑c:Int)<(↑b:Int)):(↑c:Int)<2 ^ 63:=cL (bJ (c:Int)▸L) (bG (bj.mpr (aj (aG S) Za)) (by decide))
theorem Wm{c d e:Nat}(Za:a=b)(S:c=a)(L:d=b)(X:0+(↑e:Int)<(↑d:Int)):e<c:=aQ.mp (by rw[S,Za,<- L];exact bJ (e:Int)▸X)
theorem We{a b c d:Nat}(Za:a=b)(S:c=d)(L:(↑c:Int)<(↑a:Int)):d<b:=S▸Za▸aQ.mp L
theorem bm4{b c:Nat}(Za:a=b)(S:b<=c)(L:¬(↑a:Int)<(↑c:Int)):b=c:=dB S (bj.mp (jl.mp (Za▸L)))
theorem TF{a:Int}{b:Nat}(Za:a<b)(S:(↑a.toNat:Int)=a):a.toNat<b:=aQ.mp (S▸Za)
theorem Hs{b c:Nat}(Za:a<=100)(S:b=a)(L:0+(↑c:Int)<(↑b:Int)):c<=10000:=aj (bN (aQ.mp (bJ (c:Int)▸L))) (aj (aG S) (aj Za (by decide)))
theorem U4{a:Nat}(Za:a<=10000):(↑a:Int)<2 ^ 63:=aQ.mpr (bA Za (by decide))
theorem cs8{b c:Nat}(Za:a=b)(S:¬c<=b):a<=min c b:=by subst Za;lia
theorem KQ(h:1<=d)(k:a+d<n):a+1+(d-1)<n:=by rw[dZ,Nat.add_sub_of_le h];exact k
theorem Qh(h:1<=d)(L:u<=a+8)(k:a+8*d<n):u+8*(d-1)<n:=by cases d with | zero=>cases h | succ e=>exact bA (cQ L _) (by rw[dZ,iD 8];exact k)
theorem MK{u x A C:Sort _}{c y D:u->x->A->C->Prop}{P:Prop}(h:∃ q L w T,c q L w T/\y q L w T/\D q L w T)(k:∀ q L w T,c q L w T->y q L w T->D q L w T->P):P:=h.elim λq h=>h.elim λL h=>h.elim λw h=>h.elim λT h=>k q L w T h.1 h.2.1 h.2.2
set_option genSizeOf false
open PySem
theorem uU{n:Int}{k:Nat}(Y:0<=n)(h:n<k):n.toNat<k:=(iC Y).mpr h
theorem Nt{n:Nat}(h:a<=n):max (0:Int) (min (a:Int) n)=a:=by rw[jL (bj.mpr h)];exact gZ (bB _)
theorem d5{c y P:Prop}(h:c/\y)(k:c->y->P):P:=k h.1 h.2
theorem i5{c y q P:Prop}(h:c/\y/\q)(k:c->y->q->P):P:=k h.1 h.2.1 h.2.2
theorem G6{c y q u P:Prop}(h:c/\y/\q/\u)(k:c->y->q->u->P):P:=k h.1 h.2.1 h.2.2.1 h.2.2.2
theorem Y8{c y q u w A C P:Prop}(h:c/\y/\q/\u/\w/\A/\C)(k:c->y->q->u->w->A->C->P):P:=k h.1 h.2.1 h.2.2.1 h.2.2.2.1 h.2.2.2.2.1 h.2.2.2.2.2.1 h.2.2.2.2.2.2
theorem d4{u:Sort _}{c:u->Prop}{P:Prop}(h:∃ q,c q)(k:∀ q,c q->P):P:=h.elim λq h=>k q h
theorem a7{u:Sort _}{c y:u->Prop}{P:Prop}(h:∃ q,c q/\y q)(k:∀ q,c q->y q->P):P:=h.elim λq h=>k q h.1 h.2
theorem f6{u:Sort _}{c y w:u->Prop}{P:Prop}(h:∃ q,c q/\y q/\w q)(k:∀ q,c q->y q->w q->P):P:=h.elim λq h=>k q h.1 h.2.1 h.2.2
theorem F9{u:Sort _}{c y w A:u->Prop}{P:Prop}(h:∃ q,c q/\y q/\w q/\A q)(k:∀ q,c q->y q->w q->A q->P):P:=h.elim λq h=>k q h.1 h.2.1 h.2.2.1 h.2.2.2
theorem Qf{u:Sort _}{c y w A C D:u->Prop}{P:Prop}(h:∃ q,c q/\y q/\w q/\A q/\C q/\D q)(k:∀ q,c q->y q->w q->A q->C q->D q->P):P:=h.elim λq h=>k q h.1 h.2.1 h.2.2.1 h.2.2.2.1 h.2.2.2.2.1 h.2.2.2.2.2
theorem k9{u w:Sort _}{c:u->w->Prop}{P:Prop}(h:∃ q L,c q L)(k:∀ q L,c q L->P):P:=h.elim λq h=>h.elim λL h=>k q L h
theorem i6{u w:Sort _}{c y:u->w->Prop}{P:Prop}(h:∃ q L,c q L/\y q L)(k:∀ q L,c q L->y q L->P):P:=h.elim λq h=>h.elim λL h=>k q L h.1 h.2
theorem g8{u w:Sort _}{c y A:u->w->Prop}{P:Prop}(h:∃ q L,c q L/\y q L/\A q L)(k:∀ q L,c q L->y q L->A q L->P):P:=h.elim λq h=>h.elim λL h=>k q L h.1 h.2.1 h.2.2
theorem Qx{u w:Sort _}{c y A C D E:u->w->Prop}{P:Prop}(h:∃ q L,c q L/\y q L/\A q L/\C q L/\D q L/\E q L)(k:∀ q L,c q L->y q L->A q L->C q L->D q L->E q L->P):P:=h.elim λq h=>h.elim λL h=>k q L h.1 h.2.1 h.2.2.1 h.2.2.2.1 h.2.2.2.2.1 h.2.2.2.2.2
theorem Q3{u y A:Sort _}{c:u->y->A->Prop}{P:Prop}(h:∃ q L w,c q L w)(k:∀ q L w,c q L w->P):P:=h.elim λq h=>h.elim λL h=>h.elim λw h=>k q L w h
theorem v8{u A C:Sort _}{c y:u->A->C->Prop}{P:Prop}(h:∃ q L w,c q L w/\y q L w)(k:∀ q L w,c q L w->y q L w->P):P:=h.elim λq h=>h.elim λL h=>h.elim λw h=>k q L w h.1 h.2
theorem j8{u A C:Sort _}{c y D:u->A->C->Prop}{P:Prop}(h:∃ q L w,c q L w/\y q L w/\D q L w)(k:∀ q L w,c q L w->y q L w->D q L w->P):P:=h.elim λq h=>h.elim λL h=>h.elim λw h=>k q L w h.1 h.2.1 h.2.2
theorem I5{u A C:Sort _}{c y D E:u->A->C->Prop}{P:Prop}(h:∃ q L w,c q L w/\y q L w/\D q L w/\E q L w)(k:∀ q L w,c q L w->y q L w->D q L w->E q L w->P):P:=h.elim λq h=>h.elim λL h=>h.elim λw h=>k q L w h.1 h.2.1 h.2.2.1 h.2.2.2
theorem x5{u A C:Sort _}{c y D E F:u->A->C->Prop}{P:Prop}(h:∃ q L w,c q L w/\y q L w/\D q L w/\E q L w/\F q L w)(k:∀ q L w,c q L w->y q L w->D q L w->E q L w->F q L w->P):P:=h.elim λq h=>h.elim λL h=>h.elim λw h=>k q L w h.1 h.2.1 h.2.2.1 h.2.2.2.1 h.2.2.2.2
theorem Ce{u A C:Sort _}{c y D E F H:u->A->C->Prop}{P:Prop}(h:∃ q L w,c q L w/\y q L w/\D q L w/\E q L w/\F q L w/\H q L w)(k:∀ q L w,c q L w->y q L w->D q L w->E q L w->F q L w->H q L w->P):P:=h.elim λq h=>h.elim λL h=>h.elim λw h=>k q L w h.1 h.2.1 h.2.2.1 h.2.2.2.1 h.2.2.2.2.1 h.2.2.2.2.2
theorem uh{u A C:Sort _}{c y D E F H I:u->A->C->Prop}{P:Prop}(h:∃ q L w,c q L w/\y q L w/\D q L w/\E q L w/\F q L w/\H q L w/\I q L w)(k:∀ q L w,c q L w->y q L w->D q L w->E q L w->F q L w->H q L w->I q L w->P):P:=h.elim λq h=>h.elim λL h=>h.elim λw h=>k q L w h.1 h.2.1 h.2.2.1 h.2.2.2.1 h.2.2.2.2.1 h.2.2.2.2.2.1 h.2.2.2.2.2.2
theorem u9{u A C D:Sort _}{c y:u->A->C->D->Prop}{P:Prop}(h:∃ q L w T,c q L w T/\y q L w T)(k:∀ q L w T,c q L w T->y q L w T->P):P:=h.elim λq h=>h.elim λL h=>h.elim λw h=>h.elim λT h=>k q L w T h.1 h.2
theorem T7{u A C D:Sort _}{c y E F:u->A->C->D->Prop}{P:Prop}(h:∃ q L w T,c q L w T/\y q L w T/\E q L w T/\F q L w T)(k:∀ q L w T,c q L w T->y q L w T->E q L w T->F q L w T->P):P:=h.elim λq h=>h.elim λL h=>h.elim λw h=>h.elim λT h=>k q L w T h.1 h.2.1 h.2.2.1 h.2.2.2
theorem bG4{u A C D:Sort _}{c y E F H:u->A->C->D->Prop}{P:Prop}(h:∃ q L w T,c q L w T/\y q L w T/\E q L w T/\F q L w T/\H q L w T)(k:∀ q L w T,c q L w T->y q L w T->E q L w T->F q L w T->H q L w T->P):P:=h.elim λq h=>h.elim λL h=>h.elim λw h=>h.elim λT h=>k q L w T h.1 h.2.1 h.2.2.1 h.2.2.2.1 h.2.2.2.2
theorem Qd{u A C D:Sort _}{c y E F H I:u->A->C->D->Prop}{P:Prop}(h:∃ q L w T,c q L w T/\y q L w T/\E q L w T/\F q L w T/\H q L w T/\I q L w T)(k:∀ q L w T,c q L w T->y q L w T->E q L w T->F q L w T->H q L w T->I q L w T->P):P:=h.elim λq h=>h.elim λL h=>h.elim λw h=>h.elim λT h=>k q L w T h.1 h.2.1 h.2.2.1 h.2.2.2.1 h.2.2.2.2.1 h.2.2.2.2.2
theorem bf7{A C D E F:Sort _}{c y H I:A->C->D->E->F->Prop}{P:Prop}(h:∃ u L w T q,c u L w T q/\y u L w T q/\H u L w T q/\I u L w T q)(k:∀ u L w T q,c u L w T q->y u L w T q->H u L w T q->I u L w T q->P):P:=h.elim λu h=>h.elim λL h=>h.elim λw h=>h.elim λT h=>h.elim λq h=>k u L w T q h.1 h.2.1 h.2.2.1 h.2.2.2
theorem RM{A C D E F:Sort _}{c y H I Ja:A->C->D->E->F->Prop}{P:Prop}(h:∃ u L w T q,c u L w T q/\y u L w T q/\H u L w T q/\I u L w T q/\Ja u L w T q)(k:∀ u L w T q,c u L w T q->y u L w T q->H u L w T q->I u L w T q->Ja u L w T q->P):P:=h.elim λu h=>h.elim λL h=>h.elim λw h=>h.elim λT h=>h.elim λq h=>k u L w T q h.1 h.2.1 h.2.2.1 h.2.2.2.1 h.2.2.2.2
theorem Pa{A C D E F:Sort _}{c y H I Ja K:A->C->D->E->F->Prop}{P:Prop}(h:∃ u L w T q,c u L w T q/\y u L w T q/\H u L w T q/\I u L w T q/\Ja u L w T q/\K u L w T q)(k:∀ u L w T q,c u L w T q->y u L w T q->H u L w T q->I u L w T q->Ja u L w T q->K u L w T q->P):P:=h.elim λu h=>h.elim λL h=>h.elim λw h=>h.elim λT h=>h.elim λq h=>k u L w T q h.1 h.2.1 h.2.2.1 h.2.2.2.1 h.2.2.2.2.1 h.2.2.2.2.2
theorem f8{c:Type}{a:c}{P:Prop}(e:none=some a):P:=(nomatch e)
theorem C9{c:Type}{a:c}{P:Prop}(e:some a=none):P:=(nomatch e)
theorem d7{c:Type}{a b:c}(e:some a=some b):a=b:=Option.some.inj e
inductive V where
 | none
 | bool (b:Bool)
 | int (i:Int)
 | str (s:Str)
 | tup (l:List V)
 | ref (a:Addr)
variable{J:List (Option V)}{args rh tb:List V}
set_option genInjectivity false
set_option genCtorIdx false
inductive AObj where
 | L (l:List V)
 | di (l:List (Int×V))
 | ds (l:List (Str×V))
 | ex (x:Str)
 | ob (x:Str) (d:Addr)
 | na (l:List (Str×V))
set_option genCtorIdx true
abbrev Hp:=Addr->Option AObj
variable{Z Z' sv zq τ:Hp}{X:Str->Hp->Prop}{QB:Bool->Hp->Prop}
noncomputable def upd(Z:Hp)(a:Addr)(o:AObj):Hp:=λb=>if b=a then some o else Z b
theorem d6(Z:Hp)(a:Addr)(o:AObj):upd Z a o a=some o:=if_pos rfl
theorem e8(Z:Hp)(o:AObj)(h:b≠a):upd Z a o b=Z b:=if_neg h
theorem S0(Z:Hp)(a:Addr)(o o':AObj):upd (upd Z a o) a o'=upd Z a o':=by
 funext b;unfold upd;split<;>rfl
def Sub(Z' Z:Hp):Prop:=∀ a o,Z' a=some o->Z a=some o
theorem Sub.refl(Z:Hp):Sub Z Z:=λN N h=>h
theorem Sub.trans(h:Sub a b)(k:Sub b c):Sub a c:=λx o e=>k x o (h x o e)
theorem Sub.upd(h:Z a=none):Sub Z (upd Z a o):=λb U e=>by
 unfold Internal.upd;rw[if_neg (λq=>by rw[q,h] at e;exact f8 e)];exact e
mutual
def Rep(h:Heap):Value->V->Prop
 | x,.none=>x=.none
 | x,.bool b=>x=.bool b
 | x,.int i=>∃ t,x=.int i t
 | x,.str s=>∃ t,x=.str s t
 | x,.tup l=>∃ a c n,x=.ref a/\h.get? a=some {cls:=.type "tuple",data:=.seq c n}/\d9 h c.toList l
 | x,.ref a=>x=.ref a
def d9(h:Heap):List Value->List V->Prop
 | vs,[]=>vs=[]
 | vs,x::l=>∃ v M,vs=v::M/\Rep h v x/\d9 h M l
end
section
variable{h:Heap}{x:Value}
theorem Rep.none:Rep h .none .none:=rfl
theorem Rep.bool(b:Bool):Rep h (.bool b) (.bool b):=rfl
theorem Rep.int(i:Int)(t:Tok):Rep h (.int i t) (.int i):=⟨t,rfl⟩
theorem Rep.str(x:Str)(t:Tok):Rep h (.str x t) (.str x):=⟨t,rfl⟩
theorem Rep.tup(P:h.get? a=some {cls:=.type "tuple",data:=.seq vs n})(r:d9 h vs.toList l):Rep h (.ref a) (.tup l):=⟨a,vs,n,rfl,P,r⟩
theorem Rep.ref(a:Addr):Rep h (.ref a) (.ref a):=rfl
theorem d9.nil:d9 h [] []:=rfl
theorem d9.cons{v:Value}{x:V}{vs:List Value}{l:List V}(r:Rep h v x)(rs:d9 h vs l):d9 h (v::vs) (x::l):=⟨v,vs,rfl,r,rs⟩
theorem Rep.ofNone(r:Rep h x .none):x=.none:=r
theorem Rep.ofBool(r:Rep h x (.bool b)):x=.bool b:=r
theorem Rep.ofInt(r:Rep h x (.int i)):∃ t,x=.int i t:=r
theorem Rep.ofStr(r:Rep h x (.str i)):∃ t,x=.str i t:=r
theorem Rep.ofTup(r:Rep h x (.tup l)):∃ a c n,x=.ref a/\h.get? a=some {cls:=.type "tuple",data:=.seq c n}/\d9 h c.toList l:=r
theorem Rep.ofRef(r:Rep h x (.ref a)):x=.ref a:=r
theorem d9.ofNil(r:d9 h vs []):vs=[]:=r
theorem d9.ofCons{x:V}(r:d9 h vs (x::l)):∃ v M,vs=v::M/\Rep h v x/\d9 h M l:=r
theorem d9.uncons(r:d9 h (v::vs) l):∃ y k,l=y::k/\Rep h v y/\d9 h vs k:=by
 cases l with
 | nil=>cases r.ofNil
 | cons y k=>refine g8 r.ofCons λN N e r1 r2=>?_;cases e;exact⟨y,k,rfl,r1,r2⟩
theorem d9.one{x:V}(r:d9 h vs [x]):∃ v,vs=[v]/\Rep h v x:=by
 k_extra"c9"
 obtain rfl:=rs.ofNil;exact⟨v,rfl,r1⟩
theorem d9.two{x:V}(r:d9 h vs [x,y]):∃ v u,vs=[v,u]/\Rep h v x/\Rep h u y:=by
 k_extra"c9"
 refine a7 rs.one λu qa c=>?_;subst qa
 exact⟨v,u,rfl,r1,c⟩
end
def l7(h h':Heap):Prop:=∀ b c n,h.get? b=some {cls:=.type "tuple",data:=.seq c n}->h'.get? b=some {cls:=.type "tuple",data:=.seq c n}
theorem l7.trans(x:l7 a b)(y:l7 b c):l7 a c:=λd q n e=>y d q n (x d q n e)
theorem Rep.mono{h:Heap}{x:V}(k:l7 h h'):Rep h v x->Rep h' v x:=
 V.rec (motive_1:=λx=>∀ v,Rep h v x->Rep h' v x) (motive_2:=λl=>∀ c,d9 h c l->d9 h' c l) (λN r=>r) (λN N r=>r) (λN N r=>r) (λN N r=>r)
  (λl q v r=>by refine j8 r.ofTup λa c n e P r=>?_;exact⟨a,c,n,e,k _ _ _ P,q _ r⟩) (λN N r=>r) (λN r=>r)
  (λx l U hl c r=>by refine g8 r.ofCons λv M e r1 r2=>?_;exact⟨v,M,e,U _ r1,hl _ r2⟩) x v
theorem d9.mono{h:Heap}(k:l7 h h')(r:d9 h vs l):d9 h' vs l:=by
 induction l generalizing vs with
 | nil=>exact r
 | cons x l c=>refine g8 r.ofCons λv M e r1 r2=>?_;exact⟨v,M,e,r1.mono k,c r2⟩
theorem d9.length{h:Heap}(r:d9 h vs l):vs.length=l.length:=by
 induction l generalizing vs with
 | nil=>rw[r.ofNil];rfl
 | cons x l c=>refine g8 r.ofCons λv M Ja r1 r2=>?_;subst Ja;rw[bD,bD,c r2]
theorem d9.get{h:Heap}{l:List V}{i:Nat}{x:V}(r:d9 h vs l)(e:l[i]?=some x):∃ v,vs[i]?=some v/\Rep h v x:=by
 induction l generalizing vs i with
 | nil=>cases e
 | cons y l ih=>
  k_extra"Z";clear r;subst qa
  cases i with
  | zero=>replace e:=d7 e;subst e;exact⟨v,rfl,r1⟩
  | succ i=>exact ih (vs:=us) (i:=i) r2 e
theorem d9.append{h:Heap}(r:d9 h vs l)(y:d9 h M k):d9 h (vs++M) (l++k):=by
 induction l generalizing vs with
 | nil=>rw[r.ofNil];exact y
 | cons x l c=>refine g8 r.ofCons λv q Ja r1 r2=>?_;subst Ja;exact .cons r1 (c r2)
structure G where
 prog:Program
 w:World
 h₀:Heap
 mg:Str->Option Value
 mb:Str->Option Value
 ns:h₀.Ns mainGlobals mg
 nb:h₀.Ns builtinsNs mb
 nolimit:h₀.NoLimit
 mt:Str->Option Value
def G.fn(g:G)(f:Str):Option Value:=match g.mg f with
 | some v=>some v
 | none=>g.mt f
theorem G.fn_of{g:G}(h:g.mg f=some v):g.fn f=some v:=by unfold G.fn;rw[h]
def KVs{K:Type}(h:Heap)(kvs:List (K×Value))(L:List (K×V)):Prop:=kvs.map (·.1)=L.map (·.1)/\d9 h (kvs.map (·.2)) (L.map (·.2))
theorem KVs.mono{K:Type}{h:Heap}{kvs:List (K×Value)}{L:List (K×V)}(r:KVs h kvs L)(t:l7 h h'):KVs h' kvs L:=⟨r.1,r.2.mono t⟩
def o6{prog:Program}{w:World}{K:Type}[DecidableEq K](knd:KeyKind prog w K)(h:Heap)(a:Addr)(l:List (K×V)):Prop:=
 ∀ q:Prop,(∀ (c:List (K×Value)) (d:h.DictOf knd a c) (r:KVs h c l) (n:(a==sysModules)=false),q)->q
def u5(g:G)(h:Heap)(a:Addr):AObj->Prop
 | .L l=>∃ c,h.PlainList a c/\d9 h c.toList l
 | .di l=>o6 (intKind g.prog g.w) h a l
 | .ds l=>o6 (strKind g.prog g.w) h a l
 | .ex x=>∃ C Ja c,g.mg x=some (.ref C)/\h.get? a=some Ja/\Ja.cls=.ref C/\Ja.data=.fields c
 | .ob x d=>∃ C,g.mg x=some (.ref C)/\h.get? a=some {cls:=.ref C,dict:=some d,data:=.plain}
 | .na l=>∃ m,h.Ns1 a m/\(∀ n,m n≠none->n∈l.map (·.1))/\∀ p∈l,∃ u,m p.1=some u/\Rep h u p.2
theorem o6.has{K:Type}[DecidableEq K]{knd:KeyKind prog w K}{h:Heap}{l:List (K×V)}(x:o6 knd h a l):∃ M ep,h.get? a=some {cls:=.type "dict",data:=.dict M ep}:=by
 k_extra"bt";rintro c d r n;obtain⟨o,M,ep,P,⟨c1,c2,c3⟩,q,-⟩:=d;exact⟨M,ep,by rw[P];cases o;simp only at c1 c2 c3 q;subst c1 c2 c3 q;rfl⟩
theorem o6.keep{K:Type}[DecidableEq K]{knd:KeyKind prog w K}{h:Heap}{l:List (K×V)}(x:o6 knd h a l)(t:l7 h h')(k:∀ u,h.get? a=some u->h'.get? a=some u):o6 knd h' a l:=by
 k_extra"bt";rintro c d r n;exact v8 d λo M ep P q=>(λz_ y=>y c ⟨o,M,ep,k o P,q⟩ (r.mono t) n)
theorem u5.has{h:Heap}(x:u5 g h a o):∃ ob,h.get? a=some ob:=by
 cases o with
 | L l=>obtain⟨vs,⟨n,e⟩,_⟩:=x;exact⟨_,e⟩
 | di l=>refine k9 (o6.has x) λes ep e=>?_;exact⟨_,e⟩
 | ds l=>refine k9 (o6.has x) λes ep e=>?_;exact⟨_,e⟩
 | ex y=>refine j8 x λC oe vs N e N=>?_;exact⟨_,e⟩
 | ob y d=>refine a7 x λC N e=>?_;exact⟨_,e⟩
 | na l=>obtain⟨m,⟨o,es,ep,ho,-⟩,-⟩:=x;exact⟨o,ho⟩
theorem Ns.kept{h:Heap}(c:h.Ns L m)(k:∀ o,h.get? L=some o->∃ o',h'.get? L=some o'/\o'.data=o.data):h'.Ns L m:=by
 exact j8 c λo M ep P q r=>a7 (k o P) λo' Za d=>⟨o',M,ep,Za,d.trans q,r⟩
theorem Cell.kept{h:Heap}(u:h.IsCell c v)(k:∀ o,h.get? c=some o->∃ o',h'.get? c=some o'/\o'.data=o.data):h'.IsCell c v:=by
 exact a7 u λo P q=>a7 (k o P) λo' Za d=>⟨o',Za,d.trans q⟩
set_option genInjectivity false
def KO(p:Prop)(o o':Obj):Prop:=o'=o∨(p/\∃ c,o'={o with slots:=c})
def IsD(o:Obj):Prop:=∃ M ep,o.data=.dict M ep
theorem KO.trans{p:Prop}(x:KO p a b)(y:KO p b c):KO p a c:=by
 rcases x with rfl | ⟨u,w,rfl⟩
 ·exact y
 ·rcases y with rfl | ⟨_,q,rfl⟩
  ·exact .inr ⟨u,w,rfl⟩
  ·exact .inr ⟨u,q,rfl⟩
theorem KO.mono{p q:Prop}(x:KO p a b)(h:p->q):KO q a b:=x.imp id λy=>⟨h y.1,y.2⟩
theorem KO.data{p:Prop}(x:KO p a b):b.data=a.data:=by rcases x with rfl | ⟨_,_,rfl⟩<;>rfl
structure Step(fr own:Addr->Prop)(Z Z':Hp)(s s':Shared):Prop where
 same:s'.gens=s.gens/\s'.os=s.os
 dom:∀ b o,s.heap.get? b=some o->∃ o',s'.heap.get? b=some o'/\(IsD o->IsD o')
 keep:∀ b o,s.heap.get? b=some o->Z b=none->¬ own b->∃ o',s'.heap.get? b=some o'/\KO (fr b) o o'
 tups:l7 s.heap s'.heap
 new:∀ b o,s.heap.get? b=some o->Z b=none->Z' b=none
def f5:Addr->Prop:=λz_=>False
def inF(A:Around)(b:Addr):Prop:=∃ l e,A.frames=some l/\e∈l/\e.frame=some b
section
theorem Step.exact(x:Step fr own Z Z' s s')(e:s.heap.get? b=some o)(C:Z b=none)(P:¬ own b)(T:¬ fr b):s'.heap.get? b=some o:=by
 refine a7 (x.keep b o e C P) λU c k=>?_
 rcases k with rfl | ⟨p,_⟩
 ·exact c
 ·exact absurd p T
theorem Step.trans{T:Shared}(x:Step fr own sv c sw T)(y:Step fr own c M T Y):Step fr own sv M sw Y where
 same:=⟨y.same.1.trans x.same.1,y.same.2.trans x.same.2⟩
 dom:=λb o e=>by
  exact a7 (x.dom b o e) λU q d=>a7 (y.dom b U q) λR u L=>⟨R,u,λh=>L (d h)⟩
 keep:=λb o e C P=>by
  exact a7 (x.keep b o e C P) λU q d=>a7 (y.keep b U q (x.new b o e C) P) λR u L=>⟨R,u,d.trans L⟩
 tups:=x.tups.trans y.tups
 new:=λb o e C=>by
  exact a7 (x.dom b o e) λU q N=>y.new b U q (x.new b o e C)
theorem Step.mono(x:Step fr own Z Z' s s')(h:∀ b,own b->c b):Step fr c Z Z' s s':=
 ⟨x.same,x.dom,λb o e C P=>x.keep b o e C λq=>P (h b q),x.tups,x.new⟩
theorem Step.grow(k:∀ b o,s.heap.get? b=some o->h'.get? b=some o):Step fr own Z Z s {s with heap:=h',toks:=tk}:=
 ⟨⟨rfl,rfl⟩,λb o e=>⟨o,k b o e,id⟩,λb o e N N=>⟨o,k b o e,.inl rfl⟩,λb N N e=>k b _ e,λN N N h=>h⟩
theorem Step.toks:Step fr own Z Z s {s with toks:=tk}:=Step.grow λN N e=>e
theorem Step.refl:Step fr own Z Z s s:=Step.grow (h':=s.heap) (tk:=s.toks) λN N e=>e
theorem Step.sub(x:Step fr own Z sv s s')(h:Sub Z' sv):Step fr own Z Z' s s':=
 ⟨x.same,x.dom,x.keep,x.tups,λb o e C=>by
  cases q:Z' b with
  | none=>rfl
  | some U=>rw[<- h b U q,x.new b o e C]⟩
end
structure Sim(g:G)(Z:Hp)(h:Heap):Prop where
 stays:g.h₀.StaysIn h
 objs:∀ a o,Z a=some o->u5 g h a o/\g.h₀.get? a=none
theorem Sim.sub{g:G}{h:Heap}(x:Sim g Z h)(k:Sub Z' Z):Sim g Z' h:=⟨x.stays,λa o e=>x.objs a o (k a o e)⟩
theorem u5.keep{g:G}{h:Heap}(x:u5 g h a o)(t:l7 h h')(k:∀ ob,h.get? a=some ob->h'.get? a=some ob):u5 g h' a o:=by
 cases o with
 | L l=>refine a7 x λvs hp r=>?_;exact⟨vs,hp.at k,r.mono t⟩
 | di l=>exact o6.keep x t k
 | ds l=>exact o6.keep x t k
 | ex y=>refine j8 x λC oe vs h1 e h2=>?_;exact⟨C,oe,vs,h1,k _ e,h2⟩
 | ob y d=>refine a7 x λC h1 e=>?_;exact⟨C,h1,k _ e⟩
 | na l=>refine f6 x λm h1 h3 h2=>?_;exact⟨m,h1.at λo e=>k o e,h3,λp hp=>by refine a7 (h2 p hp) λu a b=>?_;exact⟨u,a,b.mono t⟩⟩
theorem Sim.grow{g:G}{h:Heap}(x:Sim g Z h)(k:∀ b o,h.get? b=some o->h'.get? b=some o):Sim g Z h':=
 ⟨λb o e=>k b o (x.stays b o e),λa o e=>⟨(x.objs a o e).1.keep (λb N N e=>k b _ e) λc q=>k a c q,(x.objs a o e).2⟩⟩
def M1(env:Env)(h:Heap)(m:Str->Option Value)(x:Str)(v:Option V):Prop:=
 (env.kindOf x=some .local/\∀ V,v=some V->∃ r,m x=some r/\Rep h r V)∨
 (env.kindOf x=some .cell/\∃ c r,env.cells.lookup x=some c/\h.IsCell c r/\∀ V,v=some V->∃ q,r=some q/\Rep h q V)
def ownOf(env:Env)(b:Addr):Prop:=b=env.locals∨∃ x,env.cells.lookup x=some b
structure Blk where
 sc:Scope
 vars:List Str
 d:Nat
 q:Bool
variable{F:Blk}
structure Loc(env:Env)(vars:List Str)(J:List (Option V))(Z:Hp)(h:Heap):Prop where
 len:J.length=vars.length
 ns:∃ m,h.Ns env.locals m/\∀ (i:Nat) (x:Str) (v:Option V),vars[i]?=some x->J[i]?=some v->M1 env h m x v
 free:∀ b,ownOf env b->Z b=none
 live:∀ x c,env.cells.lookup x=some c->∃ v,h.IsCell c v
 apart:∀ x y c,env.cells.lookup x=some c->env.cells.lookup y=some c->x=y
 other:∀ x c,env.cells.lookup x=some c->c≠env.locals
def R5(g:G)(Z:Hp)(h:Heap)(e:Env):Prop:=
 ∀ c:Prop,(∀ (L:Addr) (K:e.scope.kind≠.module) (T:e.frame=some L) (Y:g.h₀.get? L=none) (q:Z L=none) (o:Obj) (P:h.get? L=some o) (d:IsD o),c)->c
def FrL(g:G)(A:Around)(Z:Hp)(h:Heap):Prop:=
 ∀ c:Prop,(∀ (l:List Env) (M:A.frames=some l) (all:∀ e∈l,R5 g Z h e),c)->c
def Frs(g:G)(A:Around)(env:Env)(Z:Hp)(h:Heap):Prop:=
 ∀ q:Prop,(∀ (c:Env) (l:List Env) (M:A.frames=some (c::l)) (T:c.frame=env.frame) (all:∀ e∈c::l,R5 g Z h e),q)->q
theorem R5.step{g:G}{Z Z':Hp}{s s':Shared}{fr own:Addr->Prop}{e:Env}(x:R5 g Z s.heap e)(y:Step fr own Z Z' s s'):R5 g Z' s'.heap e:=by
 k_extra"bt";rintro L K T Y q o P d;exact a7 (y.dom L o P) λU Za c=>(λz_ u=>u L K T Y (y.new L o P q) U Za (c d))
theorem Frs.step{g:G}{A:Around}{env:Env}{Z Z':Hp}{s s':Shared}{fr own:Addr->Prop}(x:Frs g A env Z s.heap)(y:Step fr own Z Z' s s'):Frs g A env Z' s'.heap:=by
 k_extra"bt";rintro c l M T all;exact(λz_ q=>q c l M T (λe w=>(all e w).step y))
theorem Frs.l{g:G}{h:Heap}(x:Frs g A env Z h):FrL g A Z h:=by
 k_extra"bt";rintro c l M T all;exact(λz_ q=>q _ M all)
theorem Frs.not{g:G}{h:Heap}(x:Frs g A env Z h)(Y:h.get? b=none∨Z b≠none):¬ inF A b:=λq=>by
 refine g8 q λl e hl he T=>x _ ?_
 clear x;rintro u y M-all;rw[hl] at M;replace M:=d7 M;subst M;refine(all e he) _ ?_;rintro L-c-w o P -;rw[T] at c;replace c:=d7 c;subst c;rcases Y with Y | Y
 ·rw[Y] at P;exact f8 P
 ·exact Y w
structure Inv(g:G)(F:Blk)(A:Around)(env:Env)(J:List (Option V))(Z:Hp)(s:Shared):Prop where
 scope:env.scope=F.sc
 fn:env.scope.kind=.function
 glob:env.globals=mainGlobals
 bltn:env.builtins=builtinsNs
 room:A.depth+F.d<recursionLimit
 units:A.units+8*F.d<cLine
 quiet:F.q=true->A.handled=none
 sim:Sim g Z s.heap
 loc:Loc env F.vars J Z s.heap
 base:∀ b,ownOf env b->g.h₀.get? b=none
 nd:F.vars.Nodup
 frs:Frs g A env Z s.heap
theorem M1.keep{h:Heap}{x:Str}(y:M1 env h m x v)(t:l7 h h')(k:∀ y c,env.cells.lookup y=some c->∀ o,h.get? c=some o->∃ o',h'.get? c=some o'/\o'.data=o.data):M1 env h' m x v:=by
 k_extra"cY"
 ·exact .inl ⟨e,λV u=>by refine a7 (y V u) λr w C=>?_;exact⟨r,w,C.mono t⟩⟩
 ·exact .inr ⟨e,c,r,hc,Cell.kept hcell λo q=>k x c hc o q,λV u=>by refine a7 (y V u) λr w C=>?_;exact⟨r,w,C.mono t⟩⟩
theorem Loc.keep(l:Loc env u J Z s.heap)(x:Step fr f5 Z Z' s s'):Loc env u J Z' s'.heap:=by
 refine a7 l.ns λm w S=>?_
 have k:∀ b,ownOf env b->∀ o,s.heap.get? b=some o->∃ U,s'.heap.get? b=some U/\U.data=o.data:=λb Y o e=>by
  exact a7 (x.keep _ _ e (l.free _ Y) id) λU D q=>⟨U,D,q.data⟩
 refine⟨l.len,⟨m,Ns.kept w (k _ (.inl rfl)),λi y v H C=>(S i y v H C).keep x.tups λy c O=>k c (.inr ⟨y,O⟩)⟩,λb Y=>?_,λy c O=>d4 (l.live y c O) λv S=>⟨v,Cell.kept S (k c (.inr ⟨y,O⟩))⟩,l.apart,l.other⟩
 ·rcases Y with rfl | ⟨y,O⟩
  ·exact v8 w λo N N P N=>x.new _ o P (l.free _ (.inl rfl))
  ·exact i6 (l.live y b O) λN o P N=>x.new _ o P (l.free _ (.inr ⟨y,O⟩))
theorem Inv.keep{g:G}(I:Inv g F A env J Z s)(x:Step (inF A) f5 Z Z' s s')(y:Sim g Z' s'.heap):Inv g F A env J Z' s':=
 ⟨I.scope,I.fn,I.glob,I.bltn,I.room,I.units,I.quiet,y,I.loc.keep x,I.base,I.nd,I.frs.step x⟩
def K3(g:G)(e:Value)(x:Str)(L:Heap)(Z:Hp)(h:Heap)(vs:Array Value)(a:Addr):Prop:=
 ∀ c:Prop,(∀ (C:Addr) (Ja:Obj) (q:Value) (w:e=.ref a) (n:L.get? a=none) (b:g.h₀.get? a=none) (y:Z a=none) (P:h.get? a=some Ja) (O:Ja.cls=.ref C) (U:g.mg x=some (.ref C))
   (u:Ja.data=.fields vs) (Y:vs[0]?=some q),c)->c
def F0(g:G)(e:Value)(x:Str)(L:Heap)(Z:Hp)(h:Heap)(C:Value):Prop:=
 ∀ c:Prop,(∀ (a:Addr) (w:Array Value) (y:K3 g e x L Z h w a) (T:Addr) (q:Obj) (u:Array Value) (Za:w[1]?=some (.ref T)) (K:L.get? T=none) (bT:g.h₀.get? T=none) (Ja:Z T=none) (ne:T≠a)
   (D:h.get? T=some q) (H:q.data=.fields u) (I:u[3]?=some C),c)->c
inductive Fly(g:G)(A:Around)(e:Value)(x:Str)(qz:Heap)(Z:Hp)(h:Heap):Prop
 | made (a:Addr) (vs:Array Value) (y:K3 g e x qz Z h vs a) (h1:vs[1]?=some .none):Fly g A e x qz Z h
 | on (fl:Value) (y:F0 g e x qz Z h fl) (hfl:fl=.none∨∃ l v L,A.frames=some (v::l)/\v.frame=some L/\fl=rawInt L):Fly g A e x qz Z h
theorem Step.nix(x:Step fr own Z Z' s s')(h:s'.heap.get? b=none):s.heap.get? b=none:=by
 cases q:s.heap.get? b with
 | none=>rfl
 | some o=>refine a7 (x.dom b o q) λU e N=>?_;rw[h] at e;exact f8 e
section
variable{g:G}{e:Value}{x:Str}{h:Heap}
theorem K3.step{vs:Array Value}{a:Addr}(y:Step fr own Z sv s sw)(f:K3 g e x sw.heap Z' h vs a):K3 g e x s.heap Z' h vs a:=by
 refine f _ ?_;clear f;rintro C Ja c w n b u P O U q Y;exact(λz_ D=>D C Ja c w (y.nix n) b u P O U q Y)
theorem Fly.sig(f:Fly g A e x L Z h)(k:∀ b,L.get? b=none->Z b=none->Z' b=none):Fly g A e x L Z' h:=by
 have c:∀ {q:Array Value} {a:Addr},K3 g e x L Z h q a->K3 g e x L Z' h q a:=fun{q a} z=>by
  k_extra"cg";rintro C oe H w n b S P O U R Y;exact(λz_ y=>y C oe H w n b (k a n S) P O U R Y)
 cases f with
 | made a q z Za=>exact .made a q (c z) Za
 | on Ja z u=>
  k_extra"cg";rintro a q z T oT ts Za K bT sT ne D I M;exact .on Ja (λz_ y=>y a q (c z) T oT ts Za K bT (k T K sT) ne D I M) u
theorem Fly.sub(f:Fly g A e x L Z h)(k:Sub Z' Z):Fly g A e x L Z' h:=f.sig λb N Y=>by
 cases q:Z' b with
 | none=>rfl
 | some o=>rw[<- k b o q,Y]
theorem F0.step{c:Value}(y:Step fr own Z sv s sw)(f:F0 g e x sw.heap Z' h c):F0 g e x s.heap Z' h c:=by
 refine f _ ?_;clear f;rintro a I z T w H Za K bT C ne D q L;exact(λz_ u=>u a I (z.step y) T w H Za (y.nix K) bT C ne D q L)
theorem Fly.step(f:Fly g A e x sw.heap Z' h)(y:Step fr own Z sv s sw):Fly g A e x s.heap Z' h:=by
 cases f with
 | made a u z Za=>exact .made a u (z.step y) Za
 | on q z c=>exact .on q (z.step y) c
end
def l8(g:G)(F:Blk)(A:Around)(env:Env)(J:List (Option V))(Z:Hp)(s:Shared)(Q:V->Hp->Prop)(v:Value)(s':Shared):Prop:=
 ∀ c:Prop,(∀ (V:V) (Z':Hp) (r:Rep s'.heap v V) (i:Inv g F A env J Z' s') (y:Step (inF A) f5 Z Z' s s') (q:Q V Z'),c)->c
def I2(g:G)(F:Blk)(A:Around)(env:Env)(J:List (Option V))(Z:Hp)(s:Shared)(Q:Bool->Hp->Prop)(b:Bool)(s':Shared):Prop:=
 ∀ c:Prop,(∀ (Z':Hp) (i:Inv g F A env J Z' s') (y:Step (inF A) f5 Z Z' s s') (q:Q b Z'),c)->c
def j6(g:G)(F:Blk)(A:Around)(env:Env)(J:List (Option V))(Z:Hp)(s:Shared)(X:Str->Hp->Prop)(e:Value)(s':Shared):Prop:=
 ∀ c:Prop,(∀ (x:Str) (Z':Hp) (f:Fly g A e x s.heap Z' s'.heap) (i:Inv g F A env J Z' s') (y:Step (inF A) f5 Z Z' s s') (q:X x Z'),c)->c
theorem j6.no{g F A env J Z s v s'}{P:Prop}(p:j6 g F A env J Z s (λN N=>False) v s'):P:=p _ λN N N N N q=>q.elim
theorem l8.step{g F A env J Z sv s sw Q v s'}(x:Step (inF A) f5 Z sv s sw)(p:l8 g F A env J sv sw Q v s'):l8 g F A env J Z s Q v s':=
 by refine p _ ?_;clear p;rintro V Z' r i y q;exact(λz_ c=>c V Z' r i (x.trans y) q)
theorem I2.step{g F A env J Z sv s sw Q v s'}(x:Step (inF A) f5 Z sv s sw)(p:I2 g F A env J sv sw Q v s'):I2 g F A env J Z s Q v s':=
 by refine p _ ?_;clear p;rintro Z' i y q;exact(λz_ c=>c Z' i (x.trans y) q)
theorem j6.step{g F A env J Z sv s sw X v s'}(x:Step (inF A) f5 Z sv s sw)(p:j6 g F A env J sv sw X v s'):j6 g F A env J Z s X v s':=
 by refine p _ ?_;clear p;rintro V Z' r i y q;exact(λz_ c=>c V Z' (r.step x) i (x.trans y) q)
section
variable{g:G}
theorem pgo{Q:V->Hp->Prop}(h:wpAny (model g.prog g.w) A m (l8 g F A env J Z s Q) (j6 g F A env J Z s X) s)
  (k:∀ v sw V sv,Rep sw.heap v V->Inv g F A env J sv sw->Step (inF A) f5 Z sv s sw->Q V sv->P v sw) (kx:∀ e s',j6 g F A env J Z s X e s'->E e s'):wpAny (model g.prog g.w) A m P E s:=
 lY h (λv sw p=>p _ (k v sw)) kx
theorem C5{Q:Bool->Hp->Prop}(h:wpAny (model g.prog g.w) A m (I2 g F A env J Z s Q) (j6 g F A env J Z s X) s)
  (k:∀ v sw sv,Inv g F A env J sv sw->Step (inF A) f5 Z sv s sw->Q v sv->P v sw) (kx:∀ e s',j6 g F A env J Z s X e s'->E e s'):wpAny (model g.prog g.w) A m P E s:=
 lY h (λv sw p=>p _ (k v sw)) kx
end
def Ev(g:G)(F:Blk)(e:Expr)(J:List (Option V))(Z:Hp)(Q:V->Hp->Prop)(X:Str->Hp->Prop):Prop:=
 ∀ A env s,Inv g F A env J Z s->wpAny (model g.prog g.w) A (eval e env) (l8 g F A env J Z s Q) (j6 g F A env J Z s X) s
def Tst(g:G)(F:Blk)(e:Expr)(J:List (Option V))(Z:Hp)(Q:Bool->Hp->Prop)(X:Str->Hp->Prop):Prop:=
 ∀ A env s,Inv g F A env J Z s->wpAny (model g.prog g.w) A (isTrue e env (eval e env)) (I2 g F A env J Z s Q) (j6 g F A env J Z s X) s
section
variable{g:G}{Q:V->Hp->Prop}
theorem Ev.mono{e:Expr}(h:Ev g F e J Z Q X)(k:∀ v Z,Q v Z->c v Z):Ev g F e J Z c X:=(λA env s I=>
 pgo (h A env s I) (λN N V Z' r i y q=>(λN k_=>k_ V Z' r i y (k _ _ q))) λN N p=>p)
theorem ck8(h:Q (.int i) Z):Ev g F (.Constant (.int i) k pos) J Z Q X:=(λA env s I=>
 wpAny_Constant_int (λz_ c=>c _ Z (.int _ _) (I.keep Step.toks I.sim) Step.toks h))
theorem Wf(h:Q (.str i) Z):Ev g F (.Constant (.str i) k pos) J Z Q X:=(λA env s I=>
 wpAny_Constant_str (λz_ c=>c _ Z (.str _ _) (I.keep Step.toks I.sim) Step.toks h))
theorem Yb(h:Q .none Z):Ev g F (.Constant .none k pos) J Z Q X:=(λA env s I=>
 wpAny_Constant_none (λz_ c=>c _ Z .none I Step.refl h))
theorem Hr(h:Q (.bool b) Z):Ev g F (.Constant (.bool b) k pos) J Z Q X:=(λA env s I=>
 wpAny_Constant_bool (λz_ c=>c _ Z (.bool _) I Step.refl h))
end
def mK(g:G)(F:Blk)(t:Value->Value->Sem Value)(a b:V)(J:List (Option V))(Z:Hp)(Q:V->Hp->Prop)(X:Str->Hp->Prop):Prop:=
 ∀ A R s x y,Inv g F A R J Z s->Rep s.heap x a->Rep s.heap y b->wpAny (model g.prog g.w) A (t x y) (l8 g F A R J Z s Q) (j6 g F A R J Z s X) s
def mQ(g:G)(F:Blk)(t:Value->Sem Value)(a:V)(J:List (Option V))(Z:Hp)(Q:V->Hp->Prop)(X:Str->Hp->Prop):Prop:=
 ∀ A R s x,Inv g F A R J Z s->Rep s.heap x a->wpAny (model g.prog g.w) A (t x) (l8 g F A R J Z s Q) (j6 g F A R J Z s X) s
def Tru(g:G)(F:Blk)(a:V)(J:List (Option V))(Z:Hp)(Q:Bool->Hp->Prop)(X:Str->Hp->Prop):Prop:=
 ∀ A R s x,Inv g F A R J Z s->Rep s.heap x a->wpAny (model g.prog g.w) A (truthy x) (I2 g F A R J Z s Q) (j6 g F A R J Z s X) s
def xY(g:G)(F:Blk)(A:Around)(env:Env)(J:List (Option V))(Z:Hp)(s:Shared)(Q:List V->Hp->Prop)(vs:List Value)(s':Shared):Prop:=
 ∀ c:Prop,(∀ (w:List V) (u:Hp) (r:d9 s'.heap vs w) (i:Inv g F A env J u s') (y:Step (inF A) f5 Z u s s') (q:Q w u),c)->c
theorem N9{g:G}{Q:List V->Hp->Prop}(h:wpAny (model g.prog g.w) A m (xY g F A env J Z s Q) (j6 g F A env J Z s X) s)
  (k:∀ v sw V c,d9 sw.heap v V->Inv g F A env J c sw->Step (inF A) f5 Z c s sw->Q V c->P v sw) (kx:∀ e s',j6 g F A env J Z s X e s'->E e s'):wpAny (model g.prog g.w) A m P E s:=
 lY h (λv sw p=>p _ (k v sw)) kx
def Evs(g:G)(F:Blk)(M:List Expr)(J:List (Option V))(Z:Hp)(Q:List V->Hp->Prop)(X:Str->Hp->Prop):Prop:=
 ∀ A R s pos,Inv g F A R J Z s->wpAny (model g.prog g.w) A (spliced (backTo pos (mF M R)))
  (xY g F A R J Z s Q) (j6 g F A R J Z s X) s/\(backTo pos (mF M R)).any (·.1)=false
def Itm(g:G)(F:Blk)(a b:V)(J:List (Option V))(Z:Hp)(Q:V->Hp->Prop)(X:Str->Hp->Prop):Prop:=
 ∀ A R s x y,Inv g F A R J Z s->Rep s.heap x a->Rep s.heap y b->∃ T id,s.TypeIs x T/\typeLookup (.type T) "__getitem__" = pure (some (.builtin id))/\
  wpAny (model g.prog g.w) A (getItem x y) (l8 g F A R J Z s Q) (j6 g F A R J Z s X) s
section
variable{g:G}{Q:V->Hp->Prop}
theorem A5{A env s}{c:Nat}(I:Inv g F A env J Z s)(h:Q (.int i) Z):l8 g F A env J Z s Q (.int i tk) {s with toks:=c}:=
 (λz_ q=>q _ Z (.int _ _) (I.keep Step.toks I.sim) Step.toks h)
theorem n6{A env s}(I:Inv g F A env J Z s)(h:Q (.bool b) Z):l8 g F A env J Z s Q (.bool b) s:=
 (λz_ c=>c _ Z (.bool _) I Step.refl h)
theorem n7{A env s}{c:Nat}(I:Inv g F A env J Z s)(h:Q (.bool b) Z):l8 g F A env J Z s Q (.bool b) {s with toks:=c}:=
 (λz_ q=>q _ Z (.bool _) (I.keep Step.toks I.sim) Step.toks h)
theorem D1{A env s v V}(I:Inv g F A env J Z s)(r:Rep s.heap v V)(h:Q V Z):l8 g F A env J Z s Q v s:=(λz_ c=>c V Z r I Step.refl h)
theorem Ey{i:Nat}{v:V}(U:F.vars[i]?=some x)(S:J[i]?=some (some v))(h:Q v Z)(u:(x==("__debug__" : Str))=false) :
  Ev g F (.Name x pos) J Z Q X:=(λA R s I=>by
 refine a7 I.loc.ns λm y w=>wpAny_Name ?_ u
 rcases w i x _ U S with ⟨K,e⟩ | ⟨K,c,r,O,q,e⟩
 ·exact a7 (e v rfl) λr E C=>wpAny_loadName_local I.fn K y E (D1 I C h)
 ·refine a7 (e v rfl) λD Ja C=>?_;rw[Ja] at q e
  exact wpAny_loadName_cell I.fn K O q (D1 I C h))
theorem Al(h:Ev g F l J Z (λa c=>Ev g F r J c (λb q=>mK g F (binaryOp op) a b J q Q X) X) X) :
  Ev g F (.BinOp l op r pos) J Z Q X:=(λA R s I=>
 wpAny_BinOp (pgo (h A R s I) (λa O w c C Za E L=>pgo (L A R O Za) (λb T x q P y S u=>lY (u A R T a b y (C.mono S.tups) P) (λN N p=>(p.step S).step E) λN N p=>(p.step S).step E) λN N p=>p.step E) λN N p=>p))
theorem bj3(h:Ev g F l J Z (λa c=>Ev g F r J c (λb q=>mK g F (compareOp op) a b J q Q X) X) X)(w:behindInMarks op r=false) :
  Ev g F (.Compare l [op] [r] pos) J Z Q X:=(λA R s I=>
 wpAny_Compare1 (pgo (h A R s I) (λa O x c C Za E L=>pgo (L A R O Za) (λb T D q P y S u=>lY (u A R T a b y (C.mono S.tups) P) (λN N p=>(p.step S).step E) λN N p=>(p.step S).step E) λN N p=>p.step E) λN N p=>p) w)
theorem yL(h:Ev g F x J Z (λa c=>mQ g F (unaryOp op) a J c Q X) X):Ev g F (.UnaryOp op x pos) J Z Q X:=(λA R s I=>
 wpAny_UnaryOp (pgo (h A R s I) (λa O q c C Za E L=>lY (L A R O a Za C) (λN N p=>p.step E) λN N p=>p.step E) λN N p=>p))
theorem B6(k:∀ A env s u v,Inv g F A env J Z s->wpAny (model g.prog g.w) A (t (.int a u) (.int b v)) (l8 g F A env J Z s Q) (j6 g F A env J Z s X) s):mK g F t (.int a) (.int b) J Z Q X:=(λA env s x y I O Za=>by
 refine d4 O.ofInt λu Ja=>?_;subst Ja;refine d4 Za.ofInt λv Ja=>?_;subst Ja;exact k A env s u v I)
theorem RD(h:Q (.int (a+b)) Z):mK g F (binaryOp .Add) (.int a) (.int b) J Z Q X:=B6 λA R s N N I=>P.add_int (A5 I h)
theorem NT(h:Q (.int (a-b)) Z):mK g F (binaryOp .Sub) (.int a) (.int b) J Z Q X:=B6 λA R s N N I=>P.sub_int (A5 I h)
theorem yN(h:Q (.int (a*b)) Z)(c:IntMulOk a b):mK g F (binaryOp .Mult) (.int a) (.int b) J Z Q X:=B6 λA R s N N I=>P.mul_int (A5 I h) c
theorem Iw(Y:b≠0)(h:Q (.int (a.fmod b)) Z):mK g F (binaryOp .Mod) (.int a) (.int b) J Z Q X:=B6 λA R s N N I=>PyProof.Rows.mod_int' Y (A5 I h)
theorem Xc(Y:b≠0)(hl:b.natAbs.log2<9000)(h:Q (.int (a.fdiv b)) Z):mK g F (binaryOp .FloorDiv) (.int a) (.int b) J Z Q X:=B6 λA R s N N I=>PyProof.Rows.floordiv_int Y (A5 I h) (Or.inl (PyProof.noPylong_of_log2 hl))
theorem Ub(Y:0<=b)(hl:(Builtin.Int.intBits a:Int)*b<=2 ^ 27)(h:Q (.int (a ^ b.toNat)) Z):mK g F (binaryOp .Pow) (.int a) (.int b) J Z Q X:=B6 λA R s N N I=>PyProof.Rows.pow_int Y hl (A5 I h)
theorem cc4(h:Q (.bool (decide (a<b))) Z):mK g F (compareOp .Lt) (.int a) (.int b) J Z Q X:=B6 λA R s N N I=>P.lt_int (n6 I h)
theorem Vf(h:Q (.bool (decide (a<=b))) Z):mK g F (compareOp .LtE) (.int a) (.int b) J Z Q X:=B6 λA R s N N I=>P.le_int (n6 I h)
theorem Qj(h:Q (.bool (decide (a > b))) Z):mK g F (compareOp .Gt) (.int a) (.int b) J Z Q X:=B6 λA R s N N I=>P.gt_int (n6 I h)
theorem cg9(h:Q (.bool (decide (a≥b))) Z):mK g F (compareOp .GtE) (.int a) (.int b) J Z Q X:=B6 λA R s N N I=>P.ge_int (n6 I h)
theorem bN4(h:Q (.bool (a==b)) Z):mK g F (compareOp .Eq) (.int a) (.int b) J Z Q X:=B6 λA R s N N I=>P.eq_int (n6 I h)
theorem ZG(h:Q (.bool (a != b)) Z):mK g F (compareOp .NotEq) (.int a) (.int b) J Z Q X:=B6 λA R s N N I=>P.ne_int (n6 I h)
theorem bt7(h:Q (.int (-a)) Z):mQ g F (unaryOp .USub) (.int a) J Z Q X:=(λA R s x I rx=>by
 refine d4 rx.ofInt λz_ qa=>?_;subst qa;exact P.neg_int (A5 I h))
theorem vY(h:QB b Z):Tru g F (.bool b) J Z QB X:=(λA R s x I O=>by
 obtain rfl:=O.ofBool;exact wpAny_truthy_bool (λz_ c=>c Z I Step.refl h))
theorem bn8(h:QB (a != 0) Z):Tru g F (.int a) J Z QB X:=(λA R s x I rx=>by
 refine d4 rx.ofInt λz_ qa=>?_;subst qa;exact P.truthy_int (λz_ c=>c Z I Step.refl h))
theorem HQ(h:Tru g F a J Z (λb Z'=>Q (.bool (!b)) Z') X):mQ g F (unaryOp .Not) a J Z Q X:=(λA R s x I O=>
 not_value (C5 (h A R s x I O) (λb w Z' c D q=>(λN u=>u _ Z' (.bool _) c D q)) λN N p=>p))
theorem Ev.tst_of(h:Ev g F e J Z (λv q=>Tru g F v J q QB X) X)(w:∀ env c,isTrue e env c=(do let v <- c;standAt e.pos;holding [v] (truthy v))):Tst g F e J Z QB X:=(λA env s I=>
 wpAny_isTrue_value (pgo (h A env s I) (λa O u q C Za E L=>lY (L A env O a Za C) (λN N p=>p.step E) λN N p=>p.step E) λN N p=>p) (w env _))
theorem wj(h:Ev g F l J Z (λa u=>Ev g F r J u (λb x=>mK g F (compareOp op) a b J x (λv M=>Tru g F v J M QB X) X) X) X)(K:behindInMarks op r=false) :
  Tst g F (.Compare l [op] [r] pos) J Z QB X:=(λA R s I=>
 wpAny_isTrue_Compare1 (pgo (h A R s I) (λa O U u C Za E L=>pgo (L A R O Za) (λb T Vb x P y S D=>pgo (D A R T a b y (C.mono S.tups) P) (λc Y Vc M Ja w q H=>
   lY (H A R Y c w Ja) (λN N p=>((p.step q).step S).step E) λN N p=>((p.step q).step S).step E) λN N p=>(p.step S).step E) λN N p=>p.step E) λN N p=>p) K)
theorem Hu(h:Tst g F x J Z (λb q=>QB (!b) q) X):Tst g F (.UnaryOp .Not x pos) J Z QB X:=(λA R s I=>
 wpAny_isTrue_Not (C5 (h A R s I) (λN N a b c d=>(λN u=>u a b c d)) λN N p=>p))
def F5(g:G)(F:Blk)(op:BoolOp)(M:List Expr)(J:List (Option V))(Z:Hp)(Q:Bool->Hp->Prop)(X:Str->Hp->Prop):Prop:=
 ∀ A R s,Inv g F A R J Z s->wpAny (model g.prog g.w) A (allTrue op M R) (I2 g F A R J Z s Q) (j6 g F A R J Z s X) s
theorem zW(h:F5 g F op M J Z QB X):Tst g F (.BoolOp op M pos) J Z QB X:=(λA R s I=>wpAny_isTrue_BoolOp (h A R s I))
theorem cq0(h:QB true Z):F5 g F .And [] J Z QB X:=(λA R s I=>wpAny_allTrue_And_nil (λz_ c=>c Z I Step.refl h))
theorem Vo(h:QB false Z):F5 g F .Or [] J Z QB X:=(λA R s I=>wpAny_allTrue_Or_nil (λz_ c=>c Z I Step.refl h))
theorem zT(h:Tst g F e J Z (λb c=>(b=true->F5 g F .And M J c QB X)/\(b=false->QB false c)) X):F5 g F .And (e::M) J Z QB X:=(λA R s I=>
 wpAny_allTrue_And_cons (C5 (h A R s I) (λb O c Za E L=>by
  cases b with
  | true=>exact lY ((L.1 rfl) A R O Za) (λN N p=>p.step E) λN N p=>p.step E
  | false=>exact(λN q=>q c Za E (L.2 rfl))) λN N p=>p))
theorem Ed(h:Tst g F e J Z (λb c=>(b=true->QB true c)/\(b=false->F5 g F .Or M J c QB X)) X):F5 g F .Or (e::M) J Z QB X:=(λA R s I=>
 wpAny_allTrue_Or_cons (C5 (h A R s I) (λb O c Za E L=>by
  cases b with
  | false=>exact lY ((L.2 rfl) A R O Za) (λN N p=>p.step E) λN N p=>p.step E
  | true=>exact(λN q=>q c Za E (L.1 rfl))) λN N p=>p))
theorem qm(h:c [] Z):Evs g F [] J Z c X:=(λA R s pos I=>⟨wpAny_items_nil (λz_ q=>q [] Z .nil I Step.refl h),rfl⟩)
theorem V2(h:Ev g F e J Z (λv u=>Evs g F M J u (λvs c=>x (v::vs) c) X) X)
  (D:∀ env pos,(backTo pos (mF M env)).any (·.1)=false)
  (w:∀ env,mF (e::M) env=(false,eval e env)::mF M env):Evs g F (e::M) J Z x X:=(λA env s pos I=>⟨
 wpAny_items_cons (pgo (h A env s I) (λv O V u r Za E L=>N9 (L A env O pos Za).1 (λvs T C c Ja y S q=>
  (λN H=>H (V::C) c (.cons (r.mono S.tups) Ja) y (E.trans S) q)) λN N p=>p.step E) λN N p=>p) (w env),by rw[w];exact D env pos⟩)
theorem Sim.push(x:Sim g Z h):Sim g Z (h.push o):=x.grow λb U e=>aD o e
theorem Step.push{o:Obj}:Step fr own Z Z s {s with heap:=s.heap.push o}:=Step.grow (tk:=s.toks) λb U e=>aD o e
theorem u7(h:Heap):h.get? h.objs.size=none:=by
 cases q:h.get? h.objs.size with
 | none=>rfl
 | some o=>exact absurd (bC q) (eE _)
theorem Sim.fresh(x:Sim g Z h):Z h.objs.size=none:=by
 cases q:Z h.objs.size with
 | none=>rfl
 | some o=>
  k_extra"cE"
  rw[u7] at e;exact f8 e
theorem tX{A env s}(I:Inv g F A env J Z s)(r:d9 s.heap vs l)(h:∀ a,Z a=none->Q (.ref a) (upd Z a (.L l))) :
  l8 g F A env J Z s Q (.ref s.heap.objs.size) {s with heap:=s.heap.push {cls:=.type "list",data:=.seq vs.toArray}}:=by
 have D:Step (inF A) f5 Z (upd Z s.heap.objs.size (.L l)) s {s with heap:=s.heap.push {cls:=.type "list",data:=.seq vs.toArray}}:=
  ⟨⟨rfl,rfl⟩,(Step.push (fr:=inF A) (own:=f5) (Z:=Z)).dom,(Step.push (fr:=inF A) (own:=f5) (Z:=Z)).keep,(Step.push (fr:=inF A) (own:=f5) (Z:=Z)).tups,λb o e hZ=>by
   rw[e8 _ _ (bR (bC e))];exact hZ⟩
 refine(λz_ c=>c _ _ (.ref _) (I.keep D ⟨I.sim.push.stays,λa o e=>?_⟩) D (h _ I.sim.fresh))
 by_cases ha:a=s.heap.objs.size
 ·subst ha
  rw[d6] at e;replace e:=d7 e;subst e;refine⟨⟨vs.toArray,⟨0,aO _ rfl⟩,r.mono D.tups⟩,?_⟩;cases q:g.h₀.get? s.heap.objs.size with
  | none=>rfl
  | some o=>have:=I.sim.stays _ _ q;rw[u7] at this;exact f8 this
 ·rw[e8 _ _ ha] at e
  exact(I.sim.push).objs a o e
theorem pK{A env s}(I:Inv g F A env J Z s)(r:d9 s.heap vs l)(h:Q (.tup l) Z) :
  l8 g F A env J Z s Q (.ref s.heap.objs.size) {s with heap:=s.heap.push {cls:=.type "tuple",data:=.seq vs.toArray}}:=by
 exact(λz_ c=>c _ Z (.tup (vs:=vs.toArray) (n:=0) (aO _ rfl) (r.mono (Step.push (fr:=inF A) (own:=f5) (Z:=Z)).tups)) (I.keep Step.push I.sim.push) Step.push h)
theorem xE(h:Evs g F M J Z (λvs c=>vs.length<=sizeLine/\Q (.tup vs) c) X):Ev g F (.Tuple M k pos) J Z Q X:=(λA R s I=>
 wpAny_Tuple (N9 (h A R s pos I).1 (λvs O w c u Za E q=>⟨by rw[u.length];exact q.1,(pK Za u q.2).step E⟩) λN N p=>p))
theorem uc(h:Evs g F M J Z (λvs c=>vs.length<=sizeLine/\∀ a,c a=none->Q (.ref a) (upd c a (.L vs))) X):Ev g F (.List M pos) J Z Q X:=(λA R s I=>
 wpAny_List (N9 (h A R s pos I).1 (λvs O w c u Za E q=>⟨by rw[u.length];exact q.1,(tX Za u q.2).step E⟩) λN N p=>p))
theorem rW(h:Ev g F u J Z (λa w=>Ev g F q J w (λb x=>Itm g F a b J x Q X) X) X)
  (K:∀ o i,subscripted q false o i=operate [o,i] (getItem o i)):Ev g F (.Subscript u q pos) J Z Q X:=(λA R s I=>
 PyProof.Rows.Subscript_ (pgo (h A R s I) (λa O M w C Za E L=>pgo (L A R O Za) (λb Ja U x P y S H=>by
   refine g8 (H A R Ja a b y (C.mono S.tups) P) λT id D hl c=>?_
   exact kj D hl (lY c (λN N p=>(p.step S).step E) λN N p=>(p.step S).step E) (K a b)) λN N p=>p.step E) λN N p=>p))
theorem Er(u : -(2 ^ 63)<=k)(q:k<2 ^ 63)(P:seqIndex? k l.length=some j)(U:l[j]?=some x)(h:Q x Z):Itm g F (.tup l) (.int k) J Z Q X:=(λA C s v y I O ry=>by
 refine j8 O.ofTup λa E n qa R r=>?_;subst qa
 k_extra"ac"
 refine a7 (r.get U) λw c D=>⟨"tuple",_,⟨_,R,rfl⟩,PySem.F.slot_tuple_getitem.lookup,PyProof.Rows.getItem_tuple ⟨_,R,rfl,_,rfl⟩ u q (j:=j) ?_ (x:=w) ?_ (D1 I D h)⟩
 ·rw[<- P,<- r.length];simp
 ·rw[<- aU];exact c)
theorem rP(C:Z a=some (.L l))(Y:0<=k)(q:k<2 ^ 63)(U:l[k.toNat]?=some x)(h:Q x Z):Itm g F (.ref a) (.int k) J Z Q X:=(λA R s v y I rx ry=>by
 k_extra"cF";k_extra"ac"
 refine a7 ((I.sim.objs a _ C).1) λE u r=>a7 (r.get U) λw c D=>?_
 exact⟨"list",_,u.isList.typeIs,slot_list_getitem.lookup,wpAny_getItem_list u.isList Y q (x:=w) (by rw[<- aU];exact c) (D1 I D h)⟩)
end
set_option genCtorIdx false
inductive Flo where
 | next | brk | cont
 | ret (v:V)
set_option genCtorIdx true
inductive FloRep(h:Heap):Flow->Flo->Prop
 | next:FloRep h .next .next
 | brk:FloRep h .brk .brk
 | cont:FloRep h .cont .cont
 | ret {v:Value} {V:V}:Rep h v V->FloRep h (.ret v) (.ret V)
abbrev j5:=Flo->List (Option V)->Hp->Prop
abbrev n5:=Str->List (Option V)->Hp->Prop
def I7(g:G)(F:Blk)(A:Around)(env:Env)(Z:Hp)(s:Shared)(Q:j5)(f:Flow)(s':Shared):Prop:=
 ∀ c:Prop,(∀ (w:Flo) (P:List (Option V)) (u:Hp) (r:FloRep s'.heap f w) (i:Inv g F A env P u s') (y:Step (inF A) (ownOf env) Z u s s') (q:Q w P u),c)->c
def x9(g:G)(F:Blk)(A:Around)(env:Env)(Z:Hp)(s:Shared)(X:n5)(e:Value)(s':Shared):Prop:=
 ∀ c:Prop,(∀ (x:Str) (P:List (Option V)) (u:Hp) (f:Fly g A e x s.heap u s'.heap) (i:Inv g F A env P u s') (y:Step (inF A) (ownOf env) Z u s s') (q:X x P u),c)->c
theorem x9.no{g F A env Z s v s'}{P:Prop}(p:x9 g F A env Z s (λN N N=>False) v s'):P:=p _ λN N N N N N q=>q.elim
theorem I7.step{g F A env Z sv s sw Q v s'}(x:Step (inF A) (ownOf env) Z sv s sw)(p:I7 g F A env sv sw Q v s'):I7 g F A env Z s Q v s':=
 by refine p _ ?_;clear p;rintro V P u r i y q;exact(λz_ c=>c V P u r i (x.trans y) q)
theorem x9.step{g F A env Z sv s sw X v s'}(x:Step (inF A) (ownOf env) Z sv s sw)(p:x9 g F A env sv sw X v s'):x9 g F A env Z s X v s':=
 by refine p _ ?_;clear p;rintro V P u r i y q;exact(λz_ c=>c V P u (r.step x) i (x.trans y) q)
theorem j6.toS{g F A env J Z s v s'}{X:n5}(p:j6 g F A env J Z s (λx Z'=>X x J Z') v s'):x9 g F A env Z s X v s':=
 by refine p _ ?_;clear p;rintro x Z' r i y q;exact(λz_ c=>c x J Z' r i (y.mono (λz_ h=>h.elim)) q)
def Exs(g:G)(F:Blk)(c:List Stmt)(J:List (Option V))(Z:Hp)(Q:j5)(X:n5):Prop:=
 ∀ A R s,Inv g F A R J Z s->wpAny (model g.prog g.w) A (execs c R) (I7 g F A R Z s Q) (x9 g F A R Z s X) s
def Ex(g:G)(F:Blk)(st:Stmt)(J:List (Option V))(Z:Hp)(Q:j5)(X:n5):Prop:=
 ∀ A R s,Inv g F A R J Z s->wpAny (model g.prog g.w) A (exec st R) (I7 g F A R Z s Q) (x9 g F A R Z s X) s
theorem sZ{l:List Str}(hn:l.Nodup){j:Nat}{x:Str}(hi:l[i]?=some x)(hj:l[j]?=some x):i=j:=by
 k_extra"aS"
section
variable{g:G}{Q:j5}{X:n5}
theorem Aw(P:h.get? c=some o)(u:∀ vs n,o.data≠.seq vs n)(w:Heap.SameBut c h h'):l7 h h':=λb vs n e=>
 (w.2 b λq=>u vs n (congrArg Obj.data (d7 ((P.symm.trans (congrArg h.get? q.symm)).trans e)))).trans e
theorem K5(u:h.Ns c m)(w:Heap.SameBut c h h'):l7 h h':=by
 exact j8 u λo M ep P q N=>Aw P (λN N e=>Data.noConfusion (q.symm.trans e)) w
theorem Af(u:h.IsCell c r)(w:Heap.SameBut c h h'):l7 h h':=by
 exact a7 u λo P q=>Aw P (λN N e=>Data.noConfusion (q.symm.trans e)) w
theorem mV{V:Internal.V}{x:Str}{w:Option Internal.V}{QU:Unit->Shared->Prop}(I:Inv g F A env J Z s)(hx:F.vars[i]?=some x)(hw:J[i]?=some w)
  (r:Rep s.heap v V) (h:∀ s',Inv g F A env (J.set i (some V)) Z s'->Step (inF A) (ownOf env) Z Z s s'->QU () s'):wpAny (model g.prog g.w) A (storeName env x v) QU E s:=by
 have hnd:=I.nd;refine a7 I.loc.ns λm hn hm=>?_
 have D:∀ j,∀ u:Option Internal.V,(J.set i (some V))[j]?=some u->(i=j/\u=some V)∨(i≠j/\J[j]?=some u):=λj u P=>by
  by_cases e:i=j
  ·subst e
   rw[jP (aF.mp hw).1] at P;exact .inl ⟨rfl,(d7 P).symm⟩
  ·rw[kZ e] at P
   exact .inr ⟨e,P⟩
 rcases hm i x _ hx hw with ⟨hk,_⟩ | ⟨hk,c,r0,hc,C,_⟩
 ·refine wpAny_storeName_local hk hn (λh' hn' hs'=>?_) (by rw[I.fn];rfl)
  have st:Step (inF A) (ownOf env) Z Z s {s with heap:=h',toks:=s.toks+1}:=by
   refine j8 (id hn') λo' es' ep' Za hd' N=>⟨⟨rfl,rfl⟩,λb o e=>?_,λb o e hZ ho=>⟨o,(hs'.2 b λq=>ho (.inl q)).trans e,.inl rfl⟩,K5 hn hs',λN N N q=>q⟩
   by_cases hb:b=env.locals
   ·subst hb
    exact⟨o',Za,λN=>⟨_,_,hd'⟩⟩
   ·k_extra"b9"
  refine h _ ?_ st
  ·have tu:=K5 hn hs'
   k_extra"aA"
   refine⟨I.scope,I.fn,I.glob,I.bltn,I.room,I.units,I.quiet,⟨λb o e=>?_,λa o e=>⟨(I.sim.objs a o e).1.keep tu λob eb=>(hs'.2 a (ne a o e)).trans eb,(I.sim.objs a o e).2⟩⟩,
    ⟨by rw[bZ];exact I.loc.len,⟨_,hn',λj y u P hu=>?_⟩,I.loc.free,λy c hc=>?_,I.loc.apart,I.loc.other⟩,I.base,I.nd,I.frs.step st⟩
   ·k_extra"aT"
   ·k_extra"df"
    ·rw[hx] at P;k_extra"dk"
     exact .inl ⟨hk,λW H=>by replace H:=d7 H;subst H;exact⟨v,if_pos rfl,r.mono tu⟩⟩
    ·have U:y≠x:=λq=>T (sZ hnd hx (q▸P))
     rcases hm j y u P Ja with ⟨K,R⟩ | ⟨K,c,r0,hc,C,R⟩
     ·exact .inl ⟨K,λW H=>by refine a7 (R W H) λr1 O L=>?_;exact⟨r1,by simpa[U] using O,L.mono tu⟩⟩
     ·exact .inr ⟨K,c,r0,hc,C.sameBut hs' (I.loc.other _ _ hc),λW H=>by refine a7 (R W H) λr1 O L=>?_;exact⟨r1,O,L.mono tu⟩⟩
   ·k_extra"bi"
 ·refine wpAny_storeName_cell I.fn hk hc C λh' S hs'=>?_
  have st:Step (inF A) (ownOf env) Z Z s {s with heap:=h'}:=by
   refine a7 (id C) λoc hoc hdc=>a7 (id S) λo' Za hd'=>⟨⟨rfl,rfl⟩,λb o e=>?_,λb o e hZ ho=>⟨o,(hs'.2 b λq=>ho (.inr ⟨_,q▸hc⟩)).trans e,.inl rfl⟩,Af C hs',λN N N q=>q⟩
   by_cases hb:b=c
   ·subst hb
    exact⟨o',Za,λq=>by refine k9 q λes ep q=>?_;rw[hoc] at e;replace e:=d7 e;subst e;rw[hdc] at q;cases q⟩
   ·k_extra"b9"
  refine h _ ?_ st
  ·have tu:=Af C hs'
   have ne:∀ a o,Z a=some o->a≠c:=λa o e q=>by rw[q,I.loc.free _ (.inr ⟨_,hc⟩)] at e;exact f8 e
   refine⟨I.scope,I.fn,I.glob,I.bltn,I.room,I.units,I.quiet,⟨λb o e=>?_,λa o e=>⟨(I.sim.objs a o e).1.keep tu λob eb=>(hs'.2 a (ne a o e)).trans eb,(I.sim.objs a o e).2⟩⟩,
    ⟨by rw[bZ];exact I.loc.len,⟨m,hn.sameBut hs' (Ne.symm (I.loc.other _ _ hc)),λj y u P hu=>?_⟩,I.loc.free,λy' c' Y=>?_,I.loc.apart,I.loc.other⟩,I.base,I.nd,I.frs.step st⟩
   ·exact(hs'.2 b (λq=>by rw[q,I.base _ (.inr ⟨_,hc⟩)] at e;exact f8 e)).trans (I.sim.stays b o e)
   ·k_extra"df"
    ·rw[hx] at P;k_extra"dk"
     exact .inr ⟨hk,c,_,hc,S,λW H=>by replace H:=d7 H;subst H;exact⟨v,rfl,r.mono tu⟩⟩
    ·have U:y≠x:=λq=>T (sZ hnd hx (q▸P))
     rcases hm j y u P Ja with ⟨K,R⟩ | ⟨K,c2,r2,hc2,M,R⟩
     ·exact .inl ⟨K,λW H=>by refine a7 (R W H) λr1 O L=>?_;exact⟨r1,O,L.mono tu⟩⟩
     ·exact .inr ⟨K,c2,r2,hc2,M.sameBut hs' (λq=>U (I.loc.apart _ _ _ hc2 (q▸hc))),λW H=>by refine a7 (R W H) λr1 O L=>?_;exact⟨r1,O,L.mono tu⟩⟩
   ·by_cases q:c'=c
    ·exact⟨_,q▸S⟩
    ·exact d4 (I.loc.live y' c' Y) λv hv=>⟨v,hv.sameBut hs' q⟩
theorem Exs.mono(h:Exs g F u J Z Q X)(k:∀ f J Z,Q f J Z->c f J Z):Exs g F u J Z c X:=(λA env s I=>
 lY (h A env s I) (λN N p=>by refine p _ ?_;clear p;rintro V J' Z' r i y q;exact(λN k_=>k_ V J' Z' r i y (k _ _ _ q))) λN N p=>p)
theorem Exs.sub(h:Exs g F q J Z' Q X)(k:Sub Z' Z):Exs g F q J Z Q X:=(λA R s I=>by
 have D:Step (inF A) f5 Z Z' s s:=Step.refl.sub k;have c:Step (inF A) (ownOf R) Z Z' s s:=Step.refl.sub k;exact lY (h A R s (I.keep D (I.sim.sub k))) (λN N p=>p.step c) λN N p=>p.step c)
def HH(g:G)(F:Blk)(rest:List Stmt)(Q:j5)(X:n5):j5:=λf J Z=>match f with
 | .next=>Exs g F rest J Z Q X
 | f=>Q f J Z
theorem Ny(h:Q .next J Z):Exs g F [] J Z Q X:=(λA R s I=>wpAny_execs_nil (λz_ c=>c .next J Z .next I Step.refl h))
theorem bZ3{st:Stmt}(h:Ex g F st J Z (HH g F rest Q X) X):Exs g F (st::rest) J Z Q X:=(λA R s I=>
 wpAny_execs_cons (lY (h A R s I) (λf O K=>by
  refine K _ ?_;clear K;rintro x c u r Za E q;cases r with
  | next=>exact lY ((show Exs g F rest c u Q X from q) A R O Za) (λN N p=>p.step E) λN N p=>p.step E
  | brk=>exact(λN w=>w .brk c u .brk Za E q)
  | cont=>exact(λN w=>w .cont c u .cont Za E q)
  | ret r=>exact(λN w=>w (.ret _) c u (.ret r) Za E q)) λN N p=>p))
theorem Tr(h:Q .brk J Z):Ex g F (.Break pos) J Z Q X:=(λA R s I=>wpAny_Break (λz_ c=>c .brk J Z .brk I Step.refl h))
theorem br4(h:Ev g F e J Z (λv c=>Q (.ret v) J c) (λx c=>X x J c)):Ex g F (.Return (some e) pos) J Z Q X:=(λA R s I=>
 wpAny_Return_some (pgo (h A R s I) (λv O V c r Za E q=>(λN u=>u (.ret V) J c (.ret r) Za (E.mono λN h=>h.elim) q)) λN N p=>p.toS))
theorem Wl(h:Tst g F C J Z (λb u=>(b=true->Exs g F w J u Q X)/\(b=false->Exs g F y J u Q X)) (λx u=>X x J u)):Ex g F (.If C w y pos) J Z Q X:=(λA R s I=>
 wpAny_If (C5 (h A R s I) (λb O u Za E q=>by
  have c:Step (inF A) (ownOf R) Z u s O:=E.mono λN h=>h.elim
  cases b with
  | true=>exact lY ((q.1 rfl) A R O Za) (λN N p=>p.step c) λN N p=>p.step c
  | false=>exact lY ((q.2 rfl) A R O Za) (λN N p=>p.step c) λN N p=>p.step c) λN N p=>p.toS))
end
def Cl(g:G)(F:Blk)(f:Value)(as:List V)(J:List (Option V))(Z:Hp)(Q:V->Hp->Prop)(X:Str->Hp->Prop):Prop:=
 ∀ A R s c,Inv g F A R J Z s->d9 s.heap c as->wpAny (model g.prog g.w) A (call f c) (l8 g F A R J Z s Q) (j6 g F A R J Z s X) s
def JR(g:G)(A:Around)(Z:Hp)(s:Shared)(Q:V->Hp->Prop)(v:Value)(s':Shared):Prop:=
 ∀ c:Prop,(∀ (V:V) (u:Hp) (r:Rep s'.heap v V) (i:Sim g u s'.heap) (y:Step (inF A) f5 Z u s s') (q:Q V u),c)->c
def bv3(g:G)(A:Around)(Z:Hp)(s:Shared)(X:Str->Hp->Prop)(e:Value)(s':Shared):Prop:=
 ∀ c:Prop,(∀ (x:Str) (u:Hp) (f:Fly g A e x s.heap u s'.heap) (i:Sim g u s'.heap) (y:Step (inF A) f5 Z u s s') (q:X x u),c)->c
def d8(g:G)(d:Nat)(q:Bool)(f:Str)(as:List V)(Z:Hp)(Q:V->Hp->Prop)(X:Str->Hp->Prop):Prop:=
 ∀ A s u a,g.fn f=some (.ref a)->A.depth+d<recursionLimit->A.units+8*d<cLine->(q=true->A.handled=none)->Sim g Z s.heap->FrL g A Z s.heap->d9 s.heap u as->
  codeAny (model g.prog g.w) A (.call (.ref a) ⟨u,[]⟩) (λr c=>match r with
   | .ok (.ret v)=>JR g A Z s Q v c
   | .ok _=>False
   | .error e=>bv3 g A Z s X e c) s
noncomputable def E0(nm qn:Str)(params:Arguments)(body:List Stmt)(scope:Scope)(pm code doc:Value):FuncData:=
 {name:=nm,qualname:=qn,params,body:=.stmts body,scope,globals:=mainGlobals,closure:=[],defaults:=.none,kwdefaults:=.none,doc,pyModule:=pm,code,builtins:=builtinsNs}
def FnO(g:G)(f:Str)(c:Arguments)(q:List Stmt)(scope:Scope):Prop:=
 ∀ u:Prop,(∀ (a:Addr) (o:Obj) (nm w y Ja R) (Za:g.fn f=some (.ref a)) (S:g.h₀.get? a=some o) (L:o.data=.func (E0 nm w c q scope y Ja R)) (x:g.h₀.CodeRec Ja w),u)->u
structure FnAt(g:G)(f:Str)(params:Arguments)(body:List Stmt)(scope:Scope):Prop where
 at':FnO g f params body scope
section
variable{g:G}{Q:V->Hp->Prop}
theorem s7:∀ {C:List (Bool×Sem Value)} {Q:Args->Shared->Prop},C.any (·.1)=false->
  wpAny M A (spliced C) (λq c=>Q ⟨q,[]⟩ c) E s->wpAny M A (evalArgs f true C []) Q E s
 | [],Q,_,h=>by
  unfold evalArgs;show wpAny M A (spliced [] >>= _) Q E s;exact lW (lY h (λq c u=>my (lW (lX (lW (lX (lX u)))))) λN N x=>x)
 | (true,x)::rest,Q,hp,h=>by simp at hp
 | (false,x)::rest,Q,hp,h=>Calls.evalArgs_plain h
theorem Inv.nB{x:Str}{U:Pos}{v:Value}{Q:Value->Shared->Prop}(I:Inv g F A env J Z s)(K:F.sc.names.lookup x=some .globalImplicit)(c:(x==("__debug__" : Str))=false)(q:g.mg x=none)(Y:g.mb x=some v)(h:Q v s):wpAny (model g.prog g.w) A (eval (.Name x U) env) Q E s:=
 Calls.Name_function_global I.fn (by show env.scope.names.lookup x=_;rw[I.scope];exact K) (Calls.loadGlobal_builtin (by rw[I.glob];exact g.ns.keeps I.sim.stays) q (by rw[I.bltn];exact g.nb.keeps I.sim.stays) Y h) c
theorem Inv.nG{x:Str}{U:Pos}{v:Value}{Q:Value->Shared->Prop}(I:Inv g F A env J Z s)(K:F.sc.names.lookup x=some .globalImplicit)(c:(x==("__debug__" : Str))=false)(S:g.mg x=some v)(h:Q v s):wpAny (model g.prog g.w) A (eval (.Name x U) env) Q E s:=
 Calls.Name_function_global I.fn (by show env.scope.names.lookup x=_;rw[I.scope];exact K) (fB (by rw[I.glob];exact g.ns.keeps I.sim.stays) S h) c
theorem CX{V:Internal.V}(K:F.sc.names.lookup x=some .globalImplicit)(S:g.mg x=some c)(u:∀ h,Rep h c V)(h:Q V Z)(q:(x==("__debug__" : Str))=false) :
  Ev g F (.Name x pos) J Z Q X:=(λA R s I=>
 I.nG K q S (D1 I (u _) h))
theorem Km{U:Pos}{args:List Expr}{id:String}(K:F.sc.names.lookup x=some .globalImplicit)(y:g.mg x=none)(Y:g.mb x=some (.builtin id))
  (h:Evs g F args J Z (λvs c=>Cl g F (.builtin id) vs J c Q X) X) (w:(x==("__debug__" : Str))=false):Ev g F (.Call (.Name x U) args [] pos) J Z Q X:=(λA env s I=>by
 refine lZ (I.nB K w y Y (d5 (h A env s pos I) λZa M=>cJ M (s7 M (lY Za (λvs sw u=>?_) λN N p=>p))))
 refine u _ ?_;clear u;rintro C c rs I1 st1 q;exact lY (q A env sw vs I1 rs) (λN N p=>p.step st1) λN N p=>p.step st1)
theorem bM1{U:Pos}{args:List Expr}{id:String}(K:F.sc.names.lookup x=some .globalImplicit)(y:g.mg x=none)(Y:g.mb x=some (.type id))
  (h:Evs g F args J Z (λvs c=>Cl g F (.type id) vs J c Q X) X) (w:(x==("__debug__" : Str))=false):Ev g F (.Call (.Name x U) args [] pos) J Z Q X:=(λA env s I=>by
 refine lZ (I.nB K w y Y (d5 (h A env s pos I) λZa M=>callWith_excType M (s7 M (lY Za (λvs sw u=>?_) λN N p=>p))))
 refine u _ ?_;clear u;rintro C c rs I1 st1 q;exact lY (q A env sw vs I1 rs) (λN N p=>p.step st1) λN N p=>p.step st1)
theorem Ow{args:List Expr}(hf:FnAt g x Ja K scope)(S:g.mg x=some v)(hk:F.sc.names.lookup x=some .globalImplicit)
  (h:Evs g F args J Z (λvs H=>d8 g F.d F.q x vs H Q X) X) (hd:(x==("__debug__" : Str))=false):Ev g F (.Call (.Name x np) args [] pos) J Z Q X:=(λA R s I=>by
 refine hf.at' _ ?_;rintro a o nm qn pm cd U T ho L Za;refine lZ (I.nG hk hd (S.trans ((G.fn_of S).symm.trans T)) (d5 (h A R s pos I) λhw hp=>jF (o:=o) (s7 hp (lY hw (λvs O p_=>p_ _ λVs H rs E C q=>⟨⟨E.sim.stays _ _ ho,L⟩,?_⟩) λN N p=>p))))
 refine wpAny_call (mq (q A O vs a T E.room E.units E.quiet E.sim E.frs.l rs) λr P y=>?_)
 cases r with
 | ok Y=>
  cases Y with
  | ret v=>
   refine y _ ?_;clear y;rintro V u r w D c;exact(λN M=>M V u r (E.keep D w) (C.trans D) c)
  | _=>exact y.elim
 | error e=>
  refine y _ ?_;clear y;rintro x u r w D c;exact(λN M=>M x u (r.step C) (E.keep D w) (C.trans D) c))
noncomputable def uV(c:Arguments)(scope:Scope)(q:List Str):Bool:=
 decide q.Nodup&&decide (c.args.map (·.arg)=q.take c.args.length)&&decide (c.args.length<=q.length) &&
 q.all (λx=>scope.names.lookup x==some .local||scope.names.lookup x==some .cell) &&
 (scope.kind==.function) && !scope.isCoroutine && !scope.isGenerator
theorem Yx{ps:List Str}:∀ {c:List Value} {m:Str->Option Value} {x:Str},k x=some .local->ps.Nodup->ps.length=c.length->
  (∀ i:Nat,ps[i]?=some x->bindL k (ps.zip c) m x=c[i]?)/\(x∉ps->bindL k (ps.zip c) m x=m x):=by
 induction ps with
 | nil=>intro c m x K hn hl;exact⟨(λi h=>(f8 h)),λz_=>rfl⟩
 | cons p ps u=>
  intro c m x K hn hl;cases c with
  | nil=>cases hl
  | cons v c=>
   have ih:=@u c (if k p=some .local then λy=>if y=p then some v else m y else m) x K (dC.mp hn).2 (Nat.succ.inj hl)
   refine⟨λi hi=>?_,λhx=>?_⟩
   ·cases i with
    | zero=>
     replace hi:=d7 hi;subst hi
     refine(ih.2 (dC.mp hn).1).trans ?_;rw[if_pos K,if_pos rfl];rfl
    | succ i=>exact ih.1 i hi
   ·refine(ih.2 λq=>hx (bV _ q)).trans ?_
    have hne:x≠p:=λq=>hx (by rw[q];exact du)
    split
    ·exact if_neg hne
    ·rfl
theorem RQ{ps:List Str}:∀ {c:List Value} {m:Str->Option Value} {x:Str},k x≠some .local->ps.Nodup->ps.length=c.length->
  (∀ i:Nat,ps[i]?=some x->bindC k (ps.zip c) m x=c[i]?)/\(x∉ps->bindC k (ps.zip c) m x=m x):=by
 induction ps with
 | nil=>intro c m x K hn hl;exact⟨(λi h=>(f8 h)),λz_=>rfl⟩
 | cons p ps u=>
  intro c m x K hn hl;cases c with
  | nil=>cases hl
  | cons v c=>
   have ih:=@u c (if k p=some .local then m else λy=>if y=p then some v else m y) x K (dC.mp hn).2 (Nat.succ.inj hl)
   refine⟨λi hi=>?_,λhx=>?_⟩
   ·cases i with
    | zero=>
     replace hi:=d7 hi;subst hi
     refine(ih.2 (dC.mp hn).1).trans ?_;rw[if_neg K,if_pos rfl];rfl
    | succ i=>exact ih.1 i hi
   ·refine(ih.2 λq=>hx (bV _ q)).trans ?_
    have hne:x≠p:=λq=>hx (by rw[q];exact du)
    split
    ·rfl
    ·exact if_neg hne
theorem Ay(names:List (Str×NameKind)):∀ (n:Nat) (c:List (Str×Addr)),names.lookup x=some .cell∨(c.lookup x).isSome=true->((cellsFrom n names c).lookup x).isSome=true:=by
 induction names with
 | nil=>intro n c h;exact h.elim (λe=>by exact f8 e) id
 | cons p r q=>
  obtain⟨y,k⟩:=p;intro n c h;have O:cellsFrom n ((y,k)::r) c=if (k==.cell)=true then cellsFrom (n+1) r ((y,n)::c) else cellsFrom n r c:=rfl
  rw[O];by_cases K:(k==.cell)=true
  ·rw[if_pos K]
   refine q (n+1) ((y,n)::c) ?_;by_cases hy:(x==y)=true
   ·exact .inr (by rw[cD,hy];rfl)
   ·have hy':=Bool.not_eq_true _▸hy
    refine h.imp (λe=>?_) λe=>?_
    ·rw[cD,hy'] at e;exact e
    ·rw[cD,hy'];exact e
  ·rw[if_neg K]
   refine q n c ?_;by_cases hy:(x==y)=true
   ·refine .inr (h.elim (λe=>?_) id)
    rw[cD,hy] at e;exact absurd (by rw[d7 e];rfl) K
   ·have hy':=Bool.not_eq_true _▸hy
    refine h.imp (λe=>?_) id
    rw[cD,hy'] at e;exact e
end
noncomputable def w9(h:Heap)(S:List Addr):Heap:={h with objs:=h.objs.mapIdx λi o=>if i∈S then{o with data:=.freed} else o}
theorem mY(Y:b∈S):(w9 h S).get? b=none:=by
 cases q:(w9 h S).get? b with
 | none=>rfl
 | some o=>
  obtain⟨e,f⟩:=fH.mp q;simp only[w9,iw] at e
  refine a7 (aR.mp e) λU N e=>?_
  rw[if_pos Y] at e;subst e;cases f
theorem zX(e:(w9 h S).get? b=some o):h.get? b=some o:=by
 have Y:b∉S:=λY=>by rw[mY Y] at e;exact f8 e
 obtain⟨e,f⟩:=fH.mp e;simp only[w9,iw] at e
 refine a7 (aR.mp e) λU c e=>?_
 rw[if_neg Y] at e;subst e;exact fH.mpr ⟨c,f⟩
theorem uB(Y:b∉S)(e:h.get? b=some o):(w9 h S).get? b=some o:=by
 obtain⟨e,f⟩:=fH.mp e;refine fH.mpr ⟨?_,f⟩;simp only[w9,iw]
 rw[e,iH,if_neg Y]
theorem wG{g:G}(all:∀ e∈l,R5 g Z h e)(Y:∀ e∈l,∀ L,e.frame=some L->base.get? L=none):h.FunFrames base l:=by
 induction l with
 | nil=>trivial
 | cons e l c=>
  refine(all e (.head _)) _ ?_;rintro L K T - - o P ⟨M,ep,d⟩;exact⟨K,⟨L,o,T,Y e (.head _) L T,P,λu q=>by rw[d] at q;cases q⟩,c (λe w=>all e (.tail _ w)) λe w=>Y e (.tail _ w)⟩
def yX(A:Around)(h h':Heap):Prop:=∀ b o,h.get? b=some o->(∀ c,o.data≠.fields c)->∃ U,h'.get? b=some U/\KO (inF A b) o U
section
variable{g:G}{sx:Shared}{e:Value}{x:Str}
def N0(g:G)(A:Around)(own:Addr->Prop)(zq Z:Hp)(sx s:Shared)(h':Heap):Prop:=
 ∀ c:Prop,(∀ (y:Step (inF A) own zq Z sx {s with heap:=h'}) (m:Sim g Z h') (k:yX A s.heap h') (t:l7 s.heap h'),c)->c
theorem went{S:List Addr}(y:Step (inF A) own zq Z sx s)(F:Sim g Z s.heap)(hk:∀ b o,s.heap.get? b=some o->b∉S->h'.get? b=some o)
  (w:∀ b∈S,(∃ vs o,s.heap.get? b=some o/\o.data=.fields vs/\sx.heap.get? b=none/\g.h₀.get? b=none/\Z b=none)∨(inF A b/\g.h₀.get? b=none/\Z b=none/\∃ o,s.heap.get? b=some o/\IsD o))
  (K:∀ b o,s.heap.get? b=some o->(∀ vs,o.data≠.fields vs)->∃ E,h'.get? b=some {o with slots:=E}):N0 g A own zq Z sx s h':=by
 have u:yX A s.heap h':=λb o e D=>by
  by_cases q:b∈S
  ·rcases w b q with ⟨vs,U,c,d,-⟩ | ⟨T,-⟩
   ·rw[e] at c;replace c:=d7 c;subst c;exact absurd d (D vs)
   ·exact d4 (K b o e D) λE c=>⟨_,c,.inr ⟨T,E,rfl⟩⟩
  ·exact⟨o,hk b o e q,.inl rfl⟩
 have keep:∀ b o,s.heap.get? b=some o->sx.heap.get? b≠none->∃ U,h'.get? b=some U/\KO (inF A b) o U:=λb o e D=>by
  by_cases q:b∈S
  ·rcases w b q with ⟨_,_,_,_,c,-⟩ | ⟨T,-,-,U,P,M,ep,d⟩
   ·exact absurd c D
   ·rw[e] at P;k_extra"dk";exact u b o e λvs q=>by rw[d] at q;cases q
  ·exact⟨o,hk b o e q,.inl rfl⟩
 have H:l7 s.heap h':=λb vs n e=>by
  refine hk b _ e λq=>?_
  rcases w b q with ⟨_,_,c,d,-⟩ | ⟨-,-,-,U,P,M,ep,d⟩
  ·rw[e] at c;replace c:=d7 c;subst c;cases d
  ·rw[e] at P;k_extra"dk";cases d
 refine(λz_ O=>O ⟨y.same,λb o e=>?_,λb o e C P=>?_,y.tups.trans H,y.new⟩ ⟨λb o e=>hk b o (F.stays b o e) λq=>?_,λa o e=>⟨(F.objs a o e).1.keep H λQ Ja=>hk a Q Ja λq=>?_,(F.objs a o e).2⟩⟩ u H)
 ·refine a7 (y.dom b o e) λo1 e1 I=>?_
  k_extra"ck"
  exact⟨o2,e2,λh=>by refine k9 (I h) λM ep d=>?_;exact⟨M,ep,k2.data.trans d⟩⟩
 ·refine a7 (y.keep b o e C P) λo1 e1 L=>?_
  k_extra"ck"
  exact⟨o2,e2,L.trans k2⟩
 ·rcases w b q with ⟨_,_,_,_,_,c,_⟩ | ⟨_,c,_⟩<;>(rw[e] at c;exact C9 c)
 ·rcases w a q with ⟨_,_,_,_,_,_,c⟩ | ⟨_,_,c,_⟩<;>(rw[e] at c;exact C9 c)
theorem Fy(y:Step (inF A) own zq Z sx s)(M:Sim g Z s.heap)(w:e=.ref a)(n:sx.heap.get? a=none)(b:g.h₀.get? a=none)(X:Z a=none)(hx:g.mg x=some (.ref C))
  (R:∀ b∈S,b≠a->(sx.heap.get? b=none/\g.h₀.get? b=none/\Z b=none)∨∃ o,h'.get? b=some o/\IsD o) (t:h'.TracedAtW (w9 s.heap S) a (.ref C) a0 K):F0 g e x sx.heap Z h' K:=by
 obtain⟨oe,vs,T,oT,ts,P,⟨O,Y⟩,U,Za,F,u,D,H,L⟩:=t;have c:sx.heap.get? T=none/\g.h₀.get? T=none/\Z T=none:=by
  by_cases q:T∈S
  ·rcases R T q u with r | ⟨o,E,es,ep,d⟩
   ·exact r
   ·rw[D] at E;replace E:=d7 E;subst E;rw[H] at d;cases d
  ·have I:s.heap.get? T=none:=by
    cases E:s.heap.get? T with
    | none=>rfl
    | some o=>rw[uB q E] at F;exact C9 F
   refine⟨y.nix I,?_,?_⟩
   ·cases E:g.h₀.get? T with
    | none=>rfl
    | some o=>rw[M.stays _ _ E] at I;exact C9 I
   ·cases E:Z T with
    | none=>rfl
    | some o=>refine d4 ((M.objs _ _ E).1.has) λob Q=>?_;rw[Q] at I;exact C9 I
 exact(λz_ Ja=>Ja a vs (λz_ Ja=>Ja C oe a0 w n b X P O hx U Y) T oT ts Za c.1 c.2.1 c.2.2 u D H L)
theorem QT(T:Q.frame=env.frame):noteFrame e env=noteFrame e Q:=by
 unfold noteFrame frameOf;rw[T]
theorem vy{L:Addr}(y:Step (inF A) own zq Z sx s)(fs:Frs g A env Z s.heap)(X:Sim g Z s.heap)(f:Fly g A e x sx.heap Z s.heap)(hL:env.frame=some L)
  (k:∀ h',N0 g A own zq Z sx s h'->F0 g e x sx.heap Z h' (rawInt L)->Q () {s with heap:=h'}):wpAny (model g.prog g.w) A (noteFrame e env) Q E s:=by
 refine fs _ ?_;clear fs;rintro u l ha hf all;rw[QT hf];have w:=hf.trans hL;have fin:∀ b∈(u::l).filterMap (·.frame),inF A b/\g.h₀.get? b=none/\Z b=none/\∃ o,s.heap.get? b=some o/\IsD o:=λb Y=>by
  refine a7 (iZ.mp Y) λv K Y=>(all v K) _ ?_
  rintro L'-Za h2 I o h4 h5;rw[Y] at Za;replace Za:=d7 Za;rw[<- Za] at h2 I h4;exact⟨⟨_,v,ha,K,Y⟩,h2,I,o,h4,h5⟩
 have dat:∀ {h':Heap} {b:Addr},b∈(u::l).filterMap (·.frame)->(∀ b o,s.heap.get? b=some o->(∀ D,o.data≠.fields D)->∃ sl,h'.get? b=some {o with slots:=sl})->∃ o,h'.get? b=some o/\IsD o:=fun{h' b} Y H=>by
  obtain⟨-,-,-,o,P,es,ep,d⟩:=fin b Y;obtain⟨sl,e1⟩:=H b o P λD q=>by rw[d] at q;cases q
  exact⟨_,e1,es,ep,d⟩
 cases f with
 | made a D z Za=>
  k_extra"dg";have stay:(w9 s.heap (a::(u::l).filterMap (·.frame))).StaysIn s.heap:=λj j e=>zX e
  unfold noteFrame;simp only[w]
  refine lW (wpAny_field P F Za ?_);rw[if_neg (by decide)]
  refine wpAny_entryW ha (wG all λv K L' h=>mY (.tail _ (iZ.mpr ⟨v,K,h⟩))) w P stay (mY (.head _)) F (cP.mp Za).1 M λh' N=>?_
  refine G6 N λk1 j k3 R=>?_
  rw[O] at k3;refine k h' (went (S:=a::(u::l).filterMap (·.frame)) y X (λb o e q=>k1 b o (uB q e)) (λc hc'=>?_) R) (Fy y X rfl n b H hx (λc hc' ne=>?_) k3)
  ·k_extra"at"
   ·exact .inl ⟨D,Ja,P,F,n,b,H⟩
   ·exact .inr (fin c hc')
  ·k_extra"at"
   ·exact absurd rfl ne
   ·exact .inr (dat hc' R)
 | on fl z hfl=>
  k_extra"cg";rintro a D z T oT ts Za nT bT sT ne hT dT I;k_extra"dg";have stay:(w9 s.heap (a::T::(u::l).filterMap (·.frame))).StaysIn s.heap:=λj j e=>zX e
  rcases hfl with rfl | ⟨l',v,L',e1,e2,rfl⟩
  ·refine wpAny_noteFrame_onW (base:=w9 s.heap (a::T::(u::l).filterMap (·.frame))) (cls:=.ref C) (a0:=a0) ha (wG all λv K L' h=>mY (.tail _ (.tail _ (iZ.mpr ⟨v,K,h⟩)))) w
    ⟨Ja,D,T,oT,ts,P,⟨O,M⟩,F,Za,mY (.tail _ (.head _)),ne,hT,dT,I⟩ stay (mY (.head _)) λh' N=>?_
   refine G6 N λk1 j k3 R=>k h' (went (S:=a::T::(u::l).filterMap (·.frame)) y X (λb o e q=>k1 b o (uB q e)) (λc hc'=>?_) R) (Fy y X rfl n b H hx (λc hc' ne'=>?_) k3)
   ·k_extra"at"
    ·exact .inl ⟨D,Ja,P,F,n,b,H⟩
    ·k_extra"at"
     ·exact .inl ⟨ts,oT,hT,dT,nT,bT,sT⟩
     ·exact .inr (fin c hc')
   ·k_extra"at"
    ·exact absurd rfl ne'
    ·k_extra"at"
     ·exact .inl ⟨nT,bT,sT⟩
     ·exact .inr (dat hc' R)
  ·rw[ha] at e1;cases e1
   rw[w] at e2;replace e2:=d7 e2;subst e2;exact wpAny_noteFrame_againW (base:=w9 s.heap [a,T]) (cls:=.ref C) (a0:=a0) w ⟨Ja,D,T,oT,ts,P,⟨O,M⟩,F,Za,mY (.tail _ (.head _)),ne,hT,dT,I⟩ (k s.heap (λj U=>U y X (λb o e j=>⟨o,e,.inl rfl⟩) (λj j j e=>e)) (λj U=>U a D (λj U=>U C Ja a0 rfl n b H P O hx F M) T oT ts Za nT bT sT ne hT dT I))
theorem T5{U:Value}{fo:Option Addr}(y:Step (inF A) own zq Z sx s)(sm:Sim g Z s.heap)(f:F0 g e x sx.heap Z s.heap U)
  (k:∀ h',N0 g A own zq Z sx s h'->F0 g e x sx.heap Z h' (fo.elim Value.none λf=>rawInt f)->Q () {s with heap:=h'}):wpAny (model g.prog g.w) A (setFlight e fo) Q E s:=by
 refine f _ ?_;clear f;rintro a vs z T oT O Za K bT M ne D F L;k_extra"cg";rintro C oe R rfl n b hs P hc hx Ja Y;have w:=(cP.mp L).1;have u:∀ b,b≠T->(s.heap.update T (Obj.mapFields (·.setIfInBounds 3 (fo.elim Value.none λf=>rawInt f)))).get? b=s.heap.get? b:=λb X=>gQ _ _ (Ne.symm X)
 unfold setFlight;refine lW (wpAny_field P Ja Za ?_);rw[if_pos (show(Value.ref T != Value.none)=true from by simp)]
 refine wpAny_setField D F w (k _ (went (S:=[T]) y sm (λb o e q=>(u b λr=>q (by rw[r];exact .head _)).trans e) (λc H=>?_) λb o e hn=>⟨o.slots,(u b λr=>?_).trans e⟩) ?_)
 ·obtain rfl:=aA.mp H
  exact .inl ⟨O,oT,D,F,K,bT,M⟩
 ·subst r;rw[D] at e;k_extra"bQ";exact hn O F
 ·exact(λz_ I=>I a vs (λz_ I=>I C oe R rfl n b hs ((u a (Ne.symm ne)).trans P) hc hx Ja Y) T _ _ Za K bT M ne (dG _ D (Obj.isFreed_of_fields (Obj.data_mapFields F _))) (Obj.data_mapFields F _) (by simp[w]))
theorem Inv.went(I:Inv g F A env J Z s)(W:N0 g A own zq Z sx s h'):Inv g F A env J Z {s with heap:=h'}:=by
 refine W _ ?_;clear W;rintro-m k t;refine a7 I.loc.ns λR D hv=>?_
 have H:∀ y c,env.cells.lookup y=some c->∀ o,s.heap.get? c=some o->∃ U,h'.get? c=some U/\U.data=o.data:=λy c O o P=>by
  refine i6 (I.loc.live y c O) λv Za u d=>?_
  rw[P] at u;replace u:=d7 u;subst u;obtain⟨U,e,q⟩:=k c o P λJa q=>by rw[d] at q;cases q
  exact⟨U,e,q.data⟩
 refine⟨I.scope,I.fn,I.glob,I.bltn,I.room,I.units,I.quiet,m,⟨I.loc.len,⟨R,Ns.kept D λo P=>?_,λi y v E C=>(hv i y v E C).keep t H⟩,I.loc.free,λy c O=>d4 (I.loc.live y c O) λv hv=>⟨v,Cell.kept hv (H y c O)⟩,I.loc.apart,I.loc.other⟩,I.base,I.nd,?_⟩
 ·refine j8 D λZa M ep u d N=>?_
  rw[P] at u;replace u:=d7 u;rw[<- u] at d;obtain⟨U,e,q⟩:=k _ o P λJa q=>by rw[d] at q;cases q
  exact⟨U,e,q.data⟩
 ·refine I.frs _ ?_;rintro e0 l ha hf all
  k_extra"0"
  rintro L K w Y Q o P ⟨M,ep,d⟩;obtain⟨U,e,q⟩:=k L o P λJa q=>by rw[d] at q;cases q
  exact(λN k_=>k_ L K w Y Q U e ⟨M,ep,q.data.trans d⟩)
theorem Frs.frame(x:Frs g A env Z h):∃ v l L,A.frames=some (v::l)/\v.frame=some L/\env.frame=some L:=by
 k_extra"bt";rintro Q l M T all;refine(all Q (.head _)) _ ?_;rintro L _ Za _ _ _ _ _;exact⟨Q,l,L,M,Za,T.symm.trans Za⟩
theorem qR{X:n5}(p:x9 g F A env zq sx X e s):notedBy (model g.prog g.w) A env (λx s'=>cameBackBy (model g.prog g.w) A env (x9 g F A env zq sx X) x s') e s:=by
 k_extra"7";rintro x P u f I st q;refine j8 I.frs.frame λv l L Za S O=>vy st I.frs I.sim f O λD W Q=>?_
 have y:=I.went W;refine W _ ?_;clear W;rintro H Ja - -;have E:=Q;k_extra"p";rintro C oe a0 rfl n b hs Y hc hx U h0;refine lW (wpAny_field (s:={s with heap:=D}) Y U e1 ?_)
 k_extra"bU"
 refine T5 (s:={s with heap:=D}) (fo:=env.frame) H Ja E λR W c=>?_
 have w:=y.went W;refine W _ ?_;clear W;rintro M K - -;rw[O] at c;exact(λz_ k_=>k_ x P u (.on _ c (.inr ⟨l,v,L,Za,S,rfl⟩)) w M q)
end
section
variable{g:G}{Q:V->Hp->Prop}
def Ai:Flo->V
 | .ret v=>v
 | _=>.none
theorem cj1(A:Around)(env:Env):(A.deeper env).units=A.units+3:=rfl
theorem Kg(A:Around)(env:Env):(A.deeper env).depth=A.depth+1:=rfl
theorem Cm(st:Step (inF (A.deeper v)) (ownOf v) Z Z' s s')(hl:FrL g A Z s.heap)(T:v.frame=some v.locals)(fresh:∀ b,ownOf v b->s.heap.get? b=none):Step (inF A) f5 Z Z' s s':=
 ⟨st.same,st.dom,λb o e C N=>by
  obtain⟨U,c,k⟩:=st.keep b o e C λY=>(by rw[fresh b Y] at e;exact f8 e)
  refine⟨U,c,k.mono λq=>g8 q λl w Za S L=>hl _ ?_⟩
  clear hl;rintro x M -;have u:(A.deeper v).frames=some (v::x):=by show A.frames.map (v :: ·)=_;rw[M];rfl
  rw[u] at Za;replace Za:=d7 Za;clear u;clear C;clear c;clear k;clear q;subst Za;rcases au.mp S with rfl | S
  ·rw[T] at L;replace L:=d7 L;subst L
   rw[fresh _ (.inl rfl)] at e;exact f8 e
  ·exact⟨x,w,M,S,L⟩,st.tups,st.new⟩
theorem VD(hf:FnAt g f u w scope)
  (ok:uV u scope C=true) (H:u.args.length=args.length)
  (Y:∀ nm qn pm Ja E vs,vs.length=u.args.length->bindArgs (E0 nm qn u w scope pm Ja E) ⟨vs,[]⟩=pure ((u.args.map (·.arg)).zip vs))
  (h:Exs g ⟨scope,C,d,q⟩ w (args.map some++aC (C.length-args.length) none) Z (λfl J' Z'=>∃ F,Sub F Z'/\Q (Ai fl) F) (λx N Z'=>X x Z')) :
  d8 g (d+1) q f args Z Q X:=(λA s vs a hm hdep hun hq sm fl rs=>by
 refine hf.at' _ ?_;rintro a' o nm qn pm Ja E hm' ho hdat hcd;rw[hm] at hm';cases hm';unfold uV at ok;simp only[cG,decide_eq_true_eq,bc,fJ,beq_iff_eq,Bool.not_eq_true'] at ok
 obtain⟨⟨⟨⟨⟨⟨hnd,L⟩,hle⟩,R⟩,hkf⟩,hco⟩,hgen⟩:=ok;have hlen:u.args.length=vs.length:=by rw[H,rs.length]
 have K:(u.args.map (·.arg)).length=vs.length:=by simpa using hlen
 have hnd':(u.args.map (·.arg)).Nodup:=by rw[L];exact hnd.sublist (List.take_sublist _ _)
 have hin:∀ x∈u.args.map (·.arg),x∈C:=λx hx=>by rw[L] at hx;exact eG hx
 refine codeAny_call_cells (fd:=E0 nm qn u w scope pm Ja E) (binds:=(u.args.map (·.arg)).zip vs) (jQ hdep) (sm.stays _ _ ho) hdat (g.nolimit.keeps sm.stays) (hcd.keeps sm.stays) rfl (Y _ _ _ _ _ _ hlen.symm) rfl (λx hx=>?_) (λO P=>?_) hco hgen hkf
 ·have hx':=hin x.1 (List.of_mem_zip (a:=x.1) (b:=x.2) hx).1
  rcases R _ hx' with e | e
  ·exact .inl e
  ·exact .inr ⟨e,Ay _ _ _ (.inl e)⟩
 ·have hL:s.heap.get? s.heap.objs.size=none:=u7 _
  have fresh:∀ b,s.heap.objs.size<=b->s.heap.get? b=none:=λb Y=>by
   cases e:s.heap.get? b with
   | none=>rfl
   | some o=>exact absurd (bC e) (dJ.mpr Y)
  have own:∀ b,ownOf (callEnvC (E0 nm qn u w scope pm Ja E) s.heap.objs.size a) b->s.heap.objs.size<=b:=λb Y=>by
   rcases Y with rfl | ⟨c,hc⟩
   ·exact aV _
   ·exact bN (P.above c b (mem_of_lookup hc))
  have T:∀ b,s.heap.objs.size<=b->Z b=none:=λb Y=>by
   cases e:Z b with
   | none=>rfl
   | some o=>
    have:=(sm.objs b o e).1;refine d4 this.has λob e'=>?_
    rw[fresh b Y] at e';exact f8 e'
  have D:∀ b,s.heap.objs.size<=b->g.h₀.get? b=none:=λb Y=>by
   cases e:g.h₀.get? b with
   | none=>rfl
   | some o=>have:=sm.stays _ _ e;rw[fresh b Y] at this;exact f8 this
  refine k9 P.toInCall.same λqz tk1 M=>?_
  have tu:l7 s.heap O.heap:=λb N N e=>P.toInCall.keep b _ e
  have st:∀ {fr own:Addr->Prop},Step fr own Z Z s O:=by intro fr own;rw[M];exact Step.grow λb o e=>by have:=P.toInCall.keep b o e;rw[M] at this;exact this
  have I:Inv g ⟨scope,C,d,q⟩ (A.deeper (callEnvC (E0 nm qn u w scope pm Ja E) s.heap.objs.size a)) (callEnvC (E0 nm qn u w scope pm Ja E) s.heap.objs.size a)
    (args.map some++aC (C.length-args.length) none) Z O:=by
   refine⟨rfl,hkf,rfl,rfl,by rw[Kg];show A.depth+1+d<_;exact UJ hdep,by rw[cj1];show A.units+3+8*d<_;lia,λe=>hq e,sm.grow P.toInCall.keep,⟨by simp only[aK,aq,bK];lia,⟨_,P.toInCall.ns,λi x v hx S=>?_⟩,λb Y=>T b (own b Y),λy c hc=>⟨_,P.cell y c hc⟩,λx y c h1 h2=>name_of_addr P.apart (mem_of_lookup h1) (mem_of_lookup h2),λy c hc=>λe=>eE _ (e▸P.above y c (mem_of_lookup hc))⟩,λb Y=>D b (own b Y),hnd,?_⟩
   ·have hxk:=R x (aL hx)
    have hval:∀ V,v=some V->∃ r,(u.args.map (·.arg))[i]?=some x/\vs[i]?=some r/\Rep O.heap r V:=λV hV=>by
     rw[hV] at S;by_cases hi:i<args.length
     ·rw[eH (by simpa using hi),aB] at S
      refine a7 (aR.mp S) λW hW hW'=>?_
      replace hW':=d7 hW';subst hW'
      refine a7 (rs.get hW) λr e1 e2=>⟨r,?_,e1,e2.mono tu⟩
      rw[L,List.getElem?_take];rw[if_pos (rE H hi)];exact hx
     ·rw[cH (by simpa using hi),jG] at S
      split at S<;>cases S
    rcases hxk with e | e
    ·refine .inl ⟨e,λV hV=>?_⟩
     exact f6 (hval V hV) λr e1 e2 e3=>⟨r,by rw[(Yx (k:=(callEnvC (E0 nm qn u w scope pm Ja E) s.heap.objs.size a).kindOf) e hnd' K).1 i e1];exact e2,e3⟩
    ·refine d4 (cX.mp (Ay scope.names (s.heap.objs.size+1) [] (.inl e))) λc hc=>.inr ⟨e,c,_,hc,P.cell x c hc,λV hV=>?_⟩
     exact f6 (hval V hV) λr e1 e2 e3=>⟨r,by rw[(RQ (k:=(callEnvC (E0 nm qn u w scope pm Ja E) s.heap.objs.size a).kindOf) (by show scope.names.lookup x≠_;rw[e];decide) hnd' K).1 i e1];exact e2,e3⟩
   ·refine fl _ ?_;clear fl;rintro l0 ha all
    refine(λN Za=>Za _ l0 (by show A.frames.map _=_;rw[ha];rfl) rfl (λv S=>?_))
    rcases au.mp S with rfl | S
    ·refine j8 P.toInCall.ns λo es ep ho hd N=>?_
     have hm:scope.kind≠.module:=by rw[hkf];decide
     exact(λN Za=>Za _ hm rfl (D _ (own _ (.inl rfl))) (T _ (own _ (.inl rfl))) o ho ⟨es,ep,hd⟩)
    ·exact(all v S).step (st (fr:=f5) (own:=f5))
  refine lY (h _ _ O I) (λfl' s' p0=>?_) (λe s' p0=>?_)
  ·refine p0 _ ?_;clear p0;rintro f' J' Z' r I' st' ⟨F,U,hQ⟩
   have st2:=Cm (st.trans (st'.sub U)) fl rfl λb Y=>fresh b (own b Y)
   cases r with
   | ret r=>exact(λN Za=>Za _ F r (I'.sim.sub U) st2 hQ)
   | _=>exact(λN Za=>Za _ F .none (I'.sim.sub U) st2 hQ)
  ·refine p0 _ ?_;clear p0;rintro x J' Z' r I' st' hX
   unfold leaving;refine lW (vy st' I'.frs I'.sim r rfl λh₂ W zx=>W _ ?_)
   clear W;rintro y2 m2 - -;refine T5 (s:={s' with heap:=h₂}) (fo:=none) y2 m2 zx λh3 W F₃=>W _ ?_
   clear W;rintro y3 m3 - -;exact(λN Za=>Za x Z' (.on _ (F₃.step (st (fr:=f5) (own:=f5))) (.inl rfl)) m3 (Cm (st.trans y3) fl rfl λb Y=>fresh b (own b Y)) hX))
end
structure IterOK(g:G)(A:Around)(I:Addr)(L:List V)(K:Hp->Prop)(St:Nat->Heap->Prop):Prop where
 frame:∀ i h h',St i h->(∀ o,h.get? I=some o->h'.get? I=some o)->l7 h h'->St i h'
 obj:∀ i h,St i h->∃ o vs,h.get? I=some o/\o.data=.fields vs
 item:∀ i x Z (s:Shared) (Q:Option Value->Shared->Prop) (E:Value->Shared->Prop),L[i]?=some x->St i s.heap->Sim g Z s.heap->K Z->
  (∀ v h' tk,Rep h' v x->St (i+1) h'->Heap.ExtBut I s.heap h'->Q (some v) {s with heap:=h',toks:=tk})->wpAny (model g.prog g.w) A (pyNext (.ref I)) Q E s
 done:∀ Z (s:Shared) (Q:Option Value->Shared->Prop) (E:Value->Shared->Prop),St L.length s.heap->Sim g Z s.heap->K Z->
  (∀ h' tk,Heap.ExtBut I s.heap h'->Q none {s with heap:=h',toks:=tk})->wpAny (model g.prog g.w) A (pyNext (.ref I)) Q E s
 self:∀ i (s:Shared) (Q:Value->Shared->Prop) (E:Value->Shared->Prop),St i s.heap->Q (.ref I) s->wpAny (model g.prog g.w) A (pyIter (.ref I)) Q E s
 plain:∀ i (s:Shared) (v:Value) (elts:List Expr) (k:Nat) (pos:Pos) (Q:Unit->Shared->Prop) (E:Value->Shared->Prop),St i s.heap->Q () s->wpAny (model g.prog g.w) A (letOwnedTupleGo (.Tuple elts k pos) (.ref I) v) Q E s
theorem T6
  (P:s.heap.get? I=some o) (O:o.cls=.type n) (q:o.data=.fields vs) (w:["enumerate","zip","dict_itemiterator","dict_reverseitemiterator","odict_iterator","itertools.zip_longest","itertools.pairwise"].contains n=false) (c:Q () s) :
  wpAny M A (letOwnedTupleGo (.Tuple u k pos) (.ref I) v) Q E s:=by
 unfold letOwnedTupleGo;cases v with
 | ref T=>
  refine lW (wpAny_load P ?_);rw[O,q];show wpAny _ A (if (["enumerate","zip","dict_itemiterator","dict_reverseitemiterator","odict_iterator","itertools.zip_longest","itertools.pairwise"].contains n&&vs[0]? == some (rawInt T))=true then _ else _) Q E s
  rw[w,gJ];exact lX c
 | _=>exact lX c
theorem R3(P:h.get? I=some o)(c:o.data=.fields vs)(x:Heap.ExtBut I h h'):l7 h h':=λb M n e=>x b _ (λq=>by
 rw[q,P] at e;replace e:=d7 e;subst e;cases c) e
theorem Ul(y:A.handled=none):IterOK g A I L (λZ=>Z ax=some (.L L)) (λi h=>h.IsListIter I ax i) where
 frame:=λi h h' st k N=>by refine a7 st λo ho r=>?_;exact⟨o,k _ ho,r⟩
 obj:=λi h st=>by refine f6 st λo ho N hd=>?_;exact⟨o,_,ho,hd⟩
 item:=λi x Z s Q E hx st sm hK hQ=>by
  exact a7 ((sm.objs _ _ hK).1) λD u r=>a7 (r.get hx) λv S C=>f6 (id st) λo ho hc hd=>wpAny_pyNext_list_item st u.isList (x:=v) (by rw[<- aU];exact S) λh' c q=>hQ v h' s.toks (C.mono (R3 ho hd q.extBut)) c q.extBut
 done:=λZ s Q E st sm hK hQ=>by
  exact a7 ((sm.objs _ _ hK).1) λD u r=>wpAny_pyNext_list_end y st u.isList (by rw[<- aU];simp[<- r.length]) λh' w=>hQ h' s.toks w
 self:=λi s Q E st hQ=>wpAny_pyIter_listiter st hQ
 plain:=λi s v elts k pos Q E st hQ=>by refine f6 st λo ho hc hd=>?_;exact T6 ho hc hd (by decide) hQ
theorem QW(F:A.handled=none){vs:Array Value}{n:Nat}:
  IterOK g A I L (λz_=>True) (λi h=>h.IsTupleIter I t i/\h.get? t=some {cls:=.type "tuple",data:=.seq vs n}/\d9 h vs.toList L) where
 frame:=λi h C st k t=>by obtain⟨⟨o,ho,r⟩,a,b⟩:=st;exact⟨⟨o,k _ ho,r⟩,t _ _ _ a,b.mono t⟩
 obj:=λi h st=>by obtain⟨⟨o,ho,_,hd⟩,_⟩:=st;exact⟨o,_,ho,hd⟩
 item:=λi x Z s Q E hx st sm hK hQ=>by
  refine i5 st λq R r=>a7 (r.get hx) λv S H=>f6 (id q) λo ho hc hd=>wpAny_pyNext_tuple_item q ⟨_,R,rfl,_,rfl⟩ (x:=v) (by rw[<- aU];exact S) λC c y=>?_
  have D:=R3 ho hd y.extBut;exact hQ v C s.toks (H.mono D) ⟨c,D _ _ _ R,r.mono D⟩ y.extBut
 done:=λZ s Q E st sm hK hQ=>by
  exact i5 st λq R r=>wpAny_pyNext_tuple_end F q ⟨_,R,rfl,_,rfl⟩ (by rw[<- aU];simp[<- r.length]) λC w=>hQ C s.toks w
 self:=λi s Q E st hQ=>wpAny_pyIter_tupleiter st.1 hQ
 plain:=λi s v u k pos Q E st hQ=>by obtain⟨⟨o,ho,hc,hd⟩,_⟩:=st;exact T6 ho hc hd (by decide) hQ
noncomputable def m7(a c:Int)(n:Nat):List V:=(bh n).map fun(i:Nat)=>.int (a+(i:Int)*c)
theorem O5(a c:Int)(n:Nat):(m7 a c n).length=n:=by simp[m7]
theorem cd5(h:(m7 a c n)[i]?=some x):i<n/\x=.int (a+i*c):=by
 have q:i<n:=by
  have:=(aF.mp h).1;rwa[O5] at this
 unfold m7 at h;rw[aB,dK q] at h;exact⟨q,(d7 h).symm⟩
theorem Wu(H:A.handled=none):
  IterOK g A I (m7 a c n) (λz_=>True) (λi h=>IsRangeIter h I (a+(i:Nat)*c) ((n:Int)-(i:Nat)) c) where
 frame:=λi h q st k t=>k _ st
 obj:=λi h st=>⟨_,_,st,rfl⟩
 item:=λi x Z s Q E hx st sm hK hQ=>by
  refine d5 (cd5 hx) λK Ja=>?_;subst Ja
  refine wpAny_pyNext_range_item st (cl7 K) λq y D=>hQ _ q _ (.int _ _) ?_ D.extBut
  have F:a+((i+1:Nat):Int)*c=a+(i:Int)*c+c:=by rw[Int.natCast_succ,Int.add_mul];lia
  have C:(n:Int)-((i+1:Nat):Int)=(n:Int)-(i:Int)-1:=by lia
  show IsRangeIter q I (a+((i+1:Nat):Int)*c) ((n:Int)-((i+1:Nat):Int)) c;rw[F,C];exact y
 done:=λZ s Q E st sm hK hQ=>by
  rw[O5] at st;exact wpAny_pyNext_range_end H st (by lia) λq w=>hQ q s.toks w
 self:=λi s Q E st hQ=>wpAny_pyIter_rangeiter st hQ
 plain:=λi s v u k pos Q E st hQ=>T6 st rfl rfl (by decide) hQ
section
variable{w:World}
theorem Bv{target it body orelse env}(I:Nat->Shared->Prop)
  (y:∀ n s,I n s->wpAny (model prog w) A (pyNext it) (λr sw=>match r with
   | none=>wpAny (model prog w) A (execs orelse env) (λf Y=>R (.ok f) Y) (notedBy (model prog w) A env λe s'=>R (.error e) s') sw
   | some v=>wpAny (model prog w) A (letOwnedTupleGo target it v) (λN sw=>wpAny (model prog w) A (assign target env v) (λN T=>wpAny (model prog w) A (execs body env) (λf Y=>match f with
     | .next | .cont=>∃ m,m<n/\I m Y
     | .brk=>R (.ok .next) Y
     | .ret v=>R (.ok (.ret v)) Y) (notedBy (model prog w) A env λe s'=>R (.error e) s') T) (notedBy (model prog w) A env λe s'=>R (.error e) s') sw) (notedBy (model prog w) A env λe s'=>R (.error e) s') sw) (notedBy (model prog w) A env λe s'=>R (.error e) s') s)
  (n:Nat) (h:I n s):codeAny (model prog w) A (.forLoop target it body orelse env) R s:=by
 refine codeAny_loop' rfl I (λn s C=>?_) n h
 show wpAny _ _ ((forTurn target it body orelse env).onRaise (λx=>do noteFrame x env;theTreesLotGoes x)) _ _ s
 refine wpAny_noted ?_;simp only[forTurn]
 refine lW (wpAny_standAt (lW (wpAny_onRaise (lY (y n s C) (λr sw L=>?_) λN N q=>wpAny_standAt q))))
 cases r with
 | none=>exact lX (.inr ⟨rfl,codeAny_block L⟩)
 | some v=>
  refine lW (lY L (λN sw L=>lW (lY L (λN T u=>lW (lY u (λf Y c=>?_) λN N q=>q)) λN N q=>q)) λN N q=>q)
  cases f with
  | next=>exact lX (.inl ⟨rfl,c⟩)
  | cont=>exact lX (.inl ⟨rfl,c⟩)
  | brk=>exact lX c
  | ret v=>exact lX c
end
section
variable{g:G}
theorem Step.but(x:Step fr own Z c s sw)(e:Heap.ExtBut I sw.heap h')(u:s.heap.get? I=none):Step fr own Z c s {sw with heap:=h',toks:=tk}:=by
 have ne:∀ b o,s.heap.get? b=some o->b≠I:=λb o hb q=>by rw[q,u] at hb;exact f8 hb
 k_extra"C"
theorem Sim.but(x:Sim g Z h)(e:Heap.ExtBut I h h')(t:l7 h h')(Za:Z I=none)(L:g.h₀.get? I=none):Sim g Z h':=
 ⟨λb o Y=>e b o (λq=>by rw[q,L] at Y;exact f8 Y) (x.stays b o Y),λa o M=>⟨(x.objs a o M).1.keep t λu c=>e a u (λq=>by rw[q,Za] at M;exact f8 M) c,(x.objs a o M).2⟩⟩
theorem Step.thing(x:Step fr f5 Z Z' s s')(C:Z b=none)(Y:s.heap.get? b=some o)(T:¬ fr b):s'.heap.get? b=some o:=x.exact Y C id T
theorem Inv.but(Ja:Inv g F A env J Z s)(e:Heap.ExtBut I s.heap h')(t:l7 s.heap h')(Za:Z I=none)(S:¬ ownOf env I)(D:g.h₀.get? I=none)(X:¬ inF A I) :
  Inv g F A env J Z {s with heap:=h',toks:=tk}:=by
 refine a7 Ja.loc.ns λm hn hv=>?_
 have hl:∀ b o,ownOf env b->s.heap.get? b=some o->h'.get? b=some o:=λb o Y x=>e b o (λq=>S (q▸Y)) x
 refine⟨Ja.scope,Ja.fn,Ja.glob,Ja.bltn,Ja.room,Ja.units,Ja.quiet,Ja.sim.but e t Za D,
  ⟨Ja.loc.len,⟨m,hn.at' λo ho=>hl _ o (.inl rfl) ho,λi y v E C=>(hv i y v E C).keep t λy c hc o ho=>⟨o,hl c o (.inr ⟨y,hc⟩) ho,rfl⟩⟩,Ja.loc.free,λy c hc=>?_,Ja.loc.apart,Ja.loc.other⟩,Ja.base,Ja.nd,?_⟩
 ·k_extra"ax"
 ·refine Ja.frs _ ?_;rintro e0 l ha hf all
  k_extra"0"
  rintro L K u Y H o ho d;exact(λz_ k_=>k_ L K u Y H o (e L o (λq=>X ⟨_,v,ha,hv,q▸u⟩) ho) d)
theorem Inv.notOwn(Ja:Inv g F A env J Z s)(h:s.heap.get? I=none):¬ ownOf env I:=λq=>by
 rcases q with rfl | ⟨y,O⟩
 ·obtain⟨m,⟨o,_,_,P,_⟩,_⟩:=Ja.loc.ns
  rw[h] at P;exact f8 P
 ·refine i6 (Ja.loc.live y I O) λN o P N=>?_;rw[h] at P;exact f8 P
theorem Inv.notFr(Ja:Inv g F A env J Z s)(h:s.heap.get? I=none):¬ inF A I:=Ja.frs.not (.inl h)
theorem Inv.notBase(Ja:Inv g F A env J Z s)(h:s.heap.get? I=none):g.h₀.get? I=none:=by
 cases q:g.h₀.get? I with
 | none=>rfl
 | some o=>have:=Ja.sim.stays _ _ q;rw[h] at this;exact f8 this
def Vi(g:G)(F:Blk)(A:Around)(env:Env)(J:List (Option V))(Z:Hp)(s:Shared)(Q:List V->(Hp->Prop)->Hp->Prop)(Y:Value)(T:Shared):Prop:=
 ∀ c:Prop,(∀ (I:Addr) (L:List V) (K:Hp->Prop) (x:Nat->Heap->Prop) (u:Hp) (e:Y=.ref I) (w:IterOK g A I L K x) (D:x 0 T.heap) (n:s.heap.get? I=none) (m:u I=none) (i:Inv g F A env J u T) (y:Step (inF A) f5 Z u s T) (q:Q L K u),c)->c
structure Itr(g:G)(F:Blk)(e:Expr)(J:List (Option V))(Z:Hp)(Q:List V->(Hp->Prop)->Hp->Prop)(X:Str->Hp->Prop):Prop where
 run:∀ A env s,Inv g F A env J Z s->A.handled=none->wpAny (model g.prog g.w) A (eval e env) (λx sw=>wpAny (model g.prog g.w) A (pyIter x) (Vi g F A env J Z s Q) (j6 g F A env J Z s X) sw) (j6 g F A env J Z s X) s
 fold:∀ env x,foldedSetIterable e env x=pure x
structure Asg(g:G)(F:Blk)(t:Expr)(v:V)(J:List (Option V))(Z:Hp)(Q:List (Option V)->Prop):Prop where
 run:∀ A env s x (QU:Unit->Shared->Prop) (E:Value->Shared->Prop),Inv g F A env J Z s->A.handled=none->Rep s.heap x v->
  (∀ s' J',Inv g F A env J' Z s'->Step (inF A) (ownOf env) Z Z s s'->Q J'->QU () s')->wpAny (model g.prog g.w) A (assign t env x) QU E s
 tgt:(∃ x p,t=.Name x p)∨∃ es k p,t=.Tuple es k p
def F2(Q:j5)(Ja:List V->List (Option V)->Hp->Prop)(l:List V):j5:=λf J Z=>match f with
 | .next=>Ja l J Z
 | .cont=>Ja l J Z
 | .brk=>Q .next J Z
 | .ret v=>Q (.ret v) J Z
def Gm(g:G)(F:Blk)(A:Around)(env:Env)(L:List V)(Ja:List V->List (Option V)->Hp->Prop)(x:Nat->Heap->Prop)(q:Addr)(Z:Hp)(s:Shared)(n:Nat)(s':Shared):Prop:=
 ∀ c:Prop,(∀ (i:Nat) (P:List (Option V)) (u:Hp) (Za:i+n=L.length+1) (S:i<=L.length) (y:Ja (L.drop i) P u) (X:x i s'.heap) (I:u q=none) (C:Inv g F A env P u s') (D:Step (inF A) (ownOf env) Z u s s'),c)->c
theorem XR{X:n5}(hh:A.handled=none)(W:IterOK g A R L K St)(hfr:s.heap.get? R=none)(c:¬ ownOf env R)(D:g.h₀.get? R=none)(I:¬ inF A R)
  (M:∀ v l P Z',Ja (v::l) P Z'->K Z'/\Asg g F t v P Z' (λJ''=>Exs g F body J'' Z' (F2 Q Ja l) X)) (hend:∀ P Z',Ja [] P Z'->K Z'/\Q .next P Z') (kO:∀ f s',I7 g F A env Z s Q f s'->QQ (.ok f) s') (kE:∀ e s',notedBy (model g.prog g.w) A env (λx s'=>cameBackBy (model g.prog g.w) A env (x9 g F A env Z s X) x s') e s'->notedBy (model g.prog g.w) A env (λx s'=>QQ (.error x) s') e s') (h₀:Gm g F A env L Ja St R Z s n₀ sx) :
  codeAny (model g.prog g.w) A (.forLoop t (.ref R) body [] env) QQ sx:=by
 refine Bv (Gm g F A env L Ja St R Z s) ?_ n₀ h₀;k_extra"b1";rintro i P Z' hn hi U O C I' st';refine i6 (W.obj i _ O) λoI vI hoI hdI=>?_
 by_cases y:i<L.length
 ·have hd:=eN y
  rw[hd] at U;refine d5 (M _ _ _ _ U) λhK asg=>W.item i L[i] Z' s' _ _ (ak y) O I'.sim hK λv h' tk hr q hx=>?_
  have I1:=I'.but (tk:=tk) hx (R3 hoI hdI hx) C c D I;have go:∀ {QU:Unit->Shared->Prop} {E:Value->Shared->Prop},QU () {s' with heap:=h',toks:=tk}->wpAny (model g.prog g.w) A (letOwnedTupleGo t (.ref R) v) QU E {s' with heap:=h',toks:=tk}:=fun{QU E} hQ=>by
   clear M;rcases asg.tgt with ⟨x,p,rfl⟩ | ⟨es,k,p,rfl⟩
   ·exact lX hQ
   ·exact W.plain (i+1) _ v es k p QU E q hQ
  refine go (asg.run A env _ v _ _ I1 hh hr λs3 J3 I3 st3 hex=>?_)
  have st13:=(st'.but (tk:=tk) hx hfr).trans st3;k_extra"a5"
  clear p4;rintro f' Za T hf I4 S H;have u:=st13.trans S;refine i6 (W.obj _ _ q) λo1 v1 e1 d1=>?_
  have hI3:=st3.exact e1 C c I;have hst4:=W.frame _ _ _ q (λo ho=>by rw[e1] at ho;replace ho:=d7 ho;clear asg;subst ho;exact(S.exact hI3 C c I)) (st3.tups.trans S.tups)
  have hZ4:=S.new R o1 hI3 C;cases hf with
  | next=>exact⟨n-1,by exact l_4 hn hi,λz_ Y=>Y (i+1) Za T (l_3 hn hi) (y) H hst4 hZ4 I4 u⟩
  | cont=>exact⟨n-1,by exact l_4 hn hi,λz_ Y=>Y (i+1) Za T (l_3 hn hi) (y) H hst4 hZ4 I4 u⟩
  | brk=>exact kO _ _ (λz_ Y=>Y .next Za T .next I4 u H)
  | ret r=>exact kO _ _ (λz_ Y=>Y (.ret _) Za T (.ret r) I4 u H)
 ·have hii:i=L.length:=l_2 hi y
  rw[hii,jt] at U;exact d5 (hend _ _ U) λhK hQ=>W.done Z' s' _ _ (hii▸O) I'.sim hK λh' tk hx=>wpAny_execs_nil (kO _ _ (λz_ Y=>Y .next P Z' .next (I'.but (tk:=tk) hx (R3 hoI hdI hx) C c D I) (st'.but (tk:=tk) hx hfr) hQ))
theorem Tt{X:n5}{E:List Stmt}(hq:F.q=true)
  (h:Itr g F iter J Z (λL K u=>∃ Ja:List V->List (Option V)->Hp->Prop,Ja L J u/\(∀ v l P Z',Ja (v::l) P Z'->K Z'/\Asg g F t v P Z' (λq=>Exs g F E q Z' (F2 Q Ja l) X))/\∀ P Z',Ja [] P Z'->K Z'/\Q .next P Z') (λx u=>X x J u)) :
  Ex g F (.For t iter E [] pos) J Z Q X:=(λA R s I=>by
 have Za:=I.quiet hq;refine wpAny_For (lY (h.run A R s I Za) (λx sw U=>lY U (λit s₂ H=>H _ ?_) λN N p=>p.toS) λN N p=>p.toS) (h.fold R)
 clear H;rintro It L K St u rfl W c C T y S ⟨Ja,hJ,M,O⟩;have D:=I.notBase C;have Y:=I.notFr C;exact XR Za W C (I.notOwn C) D Y M O (λN N p=>p) (λN N p=>p) (n₀:=L.length+1)
  (λN k_=>k_ 0 J u (by lia) (aY _) (by simpa using hJ) c T y (S.mono λN h=>h.elim)))
theorem Itr.mono{D:List V->(Hp->Prop)->Hp->Prop}(h:Itr g F e J Z Q X)(k:∀ L K Z,Q L K Z->D L K Z):Itr g F e J Z D X:=
 ⟨λA R s I Y=>lY (h.run A R s I Y) (λx O c=>lY c (λit T p=>by refine p _ ?_;clear p;rintro H L K Ja u E C M y P S U q;exact(λN Za=>Za H L K Ja u E C M y P S U (k _ _ _ q))) λN N p=>p) λN N p=>p,h.fold⟩
end
section
variable{g:G}
theorem Step.push'{o:Obj}(x:Step fr own Z c s sw):Step fr own Z c s {sw with heap:=sw.heap.push o}:=x.trans Step.push
theorem Step.freshSize(x:Step fr own Z c s sw):s.heap.get? sw.heap.objs.size=none:=by
 cases q:s.heap.get? sw.heap.objs.size with
 | none=>rfl
 | some o=>refine a7 (x.dom _ o q) λU Q N=>?_;rw[u7] at Q;exact f8 Q
def Jp(g:G)(F:Blk)(A:Around)(env:Env)(J:List (Option V))(Z:Hp)(s:Shared)(Q:Int->Int->Int->Hp->Prop)(x:Value)(sw:Shared):Prop:=
 ∀ C:Prop,(∀ (r:Addr) (a b c:Int) (t u v:Tok) (w:Hp) (e:x=.ref r) (o:IsRange sw.heap r a b c t u v) (i:Inv g F A env J w sw) (y:Step (inF A) f5 Z w s sw) (q:Q a b c w),C)->C
def Rng(g:G)(F:Blk)(e:Expr)(J:List (Option V))(Z:Hp)(Q:Int->Int->Int->Hp->Prop)(X:Str->Hp->Prop):Prop:=
 ∀ A R s,Inv g F A R J Z s->wpAny (model g.prog g.w) A (eval e R) (Jp g F A R J Z s Q) (j6 g F A R J Z s X) s
theorem Rb{U:Pos}(hk:F.sc.names.lookup x=some .globalImplicit)(hg:g.mg x=none)(hb:g.mb x=some (.type "range"))
  (h:Ev g F e J Z (λv c=>∃ n,v=.int n/\Q 0 n 1 c) X) (hd:(x==("__debug__" : Str))=false) (he:∀ env,mF [e] env=(false,eval e env)::mF [] env):Rng g F (.Call (.Name x U) [e] [] pos) J Z Q X:=(λA env s I=>by
 refine lZ (I.nB hk hd hg hb ?_);k_extra"bX"
 refine callWith_excType hp (s7 hp (wpAny_items_cons (pgo (h A env s I) (λv O V c r E q w=>wpAny_items_nil (a7 w λn u y=>?_)) λN N p=>p) (he env)))
 rw[u] at r w;refine d4 r.ofInt λN qa=>?_;subst qa
 refine call_range_1 (λN C=>C _ 0 n 1 _ _ _ c rfl (aO _ rfl) ?_ ?_ y)
 ·exact E.keep (Step.grow λb o e=>aD _ e) E.sim.push
 ·exact q.trans (Step.grow λb o e=>aD _ e))
theorem bL4(h:Rng g F e J Z (λa b c q=>Builtin.Range.small a b c=true/\Q (m7 a c (Builtin.Range.rangeSize a b c).toNat) (λN=>True) q) X)(T:∀ env x,foldedSetIterable e env x=pure x):Itr g F e J Z Q X:=
 ⟨λA env s I M=>lY (h A env s I) (λx O y=>by
  refine y _ ?_;clear y;rintro r a b c t u v q U H E w ⟨D,K⟩;subst U;refine wpAny_pyIter_range H D ?_;have P:0<=Builtin.Range.rangeSize a b c:=by
   unfold Builtin.Range.rangeSize
   split
   ·split
    ·have:=Int.ediv_nonneg (a:=b-a-1) (b:=c) (iI (jj ‹_›)) (by exact eU (by assumption));exact wy this
    ·exact gR _
   ·split
    ·by_cases L:c=0
     ·clear H;clear D;subst L;simp
     ·have:=Int.ediv_nonneg (a:=a-b-1) (b:=-c) (iI (jj ‹_›)) (by lia);exact wy this
    ·exact gR _
  refine(λN R=>R _ _ _ _ q rfl (Wu M (a:=a) (c:=c) (n:=(Builtin.Range.rangeSize a b c).toNat)) ?_ ?_ E.sim.fresh (E.keep Step.push E.sim.push) w.push' K)
  ·have Ja:((Builtin.Range.rangeSize a b c).toNat:Int)-((0:Nat):Int)=Builtin.Range.rangeSize a b c:=(lM _).trans (bQ P)
   have C:a+((0:Nat):Int)*c=a:=by simp
   rw[Ja,C];exact aO _ rfl
  ·exact w.freshSize) λN N p=>p,T⟩
def Yq(g:G)(F:Blk)(A:Around)(env:Env)(Ja:Nat->List (Option V)->Hp->Prop)(Z:Hp)(s:Shared)(n:Nat)(s':Shared):Prop:=
 ∀ c:Prop,(∀ (w:List (Option V)) (u:Hp) (Za:Ja n w u) (S:Inv g F A env w u s') (L:Step (inF A) (ownOf env) Z u s s'),c)->c
theorem VK{X:n5}(Ja:Nat->List (Option V)->Hp->Prop)(h0:Ja n J Z)
  (h:∀ n w Z',Ja n w Z'->Tst g F K w Z' (λb u=>(b=true->Exs g F H w u (λf c S=>match f with
   | .next=>∃ m,m<n/\Ja m c S
   | .cont=>∃ m,m<n/\Ja m c S
   | .brk=>Q .next c S
   | .ret v=>Q (.ret v) c S) X)/\(b=false->Q .next w u)) (λx u=>X x w u)):Ex g F (.While K H [] pos) J Z Q X:=(λA R s I=>by
 refine wpAny_While (codeAny_whileLoop (Yq g F A R Ja Z s) ?_ n (λz_ C=>C J Z h0 I Step.refl))
 k_extra"b1";rintro w Z' hJ I' D;refine C5 ((h n w Z' hJ) A R s' I') (λb O u E M Y=>?_) λe O p=>qR (p.toS.step D)
 have q:=D.trans (M.mono λz_ h=>h.elim)
 cases b with
 | false=>exact wpAny_execs_nil (λz_ C=>C .next w u .next E q (Y.2 rfl))
 | true=>
  refine lY ((Y.1 rfl) A R O E) (λf P p0=>p0 _ ?_) λe P p=>qR (p.step q)
  clear p0;rintro f' c S hf y T U;cases hf with
  | next=>refine a7 U λm Za L=>?_;exact⟨m,Za,λz_ C=>C c S L y (q.trans T)⟩
  | cont=>refine a7 U λm Za L=>?_;exact⟨m,Za,λz_ C=>C c S L y (q.trans T)⟩
  | brk=>exact(λz_ C=>C .next c S .next y (q.trans T) U)
  | ret r=>exact(λz_ C=>C (.ret _) c S (.ret r) y (q.trans T) U))
end
set_option maxHeartbeats 1000000
def zp:List V->Bool
 | [.ref _,_]=>true
 | [.none,_]=>true
 | _=>false
mutual
def nz:V->Bool
 | .tup l=>!zp l&&nzL l
 | _=>true
def nzL:List V->Bool
 | []=>true
 | x::l=>nz x&&nzL l
end
structure TupsZ(TO:Addr)(h h':Heap):Prop where
 keep:∀ b vs n,b≠TO->h.get? b=some {cls:=.type "tuple",data:=.seq vs n}->h'.get? b=some {cls:=.type "tuple",data:=.seq vs n}
 pair:∀ vs n,h.get? TO=some {cls:=.type "tuple",data:=.seq vs n}->∃ x y,vs=#[x,y]/\(x=.none∨∃ a,x=.ref a/\∀ us m,h.get? a≠some {cls:=.type "tuple",data:=.seq us m})
theorem TupsZ.zp(k:TupsZ TO h h')(e:h.get? TO=some {cls:=.type "tuple",data:=.seq vs n})(r:d9 h vs.toList l):zp l=true:=by
 refine i6 (k.pair vs n e) λx y Ja U=>?_;subst Ja
 refine g8 r.uncons λX K Ja rX r1=>?_;clear r;subst Ja
 refine g8 r1.uncons λY q Ja c r2=>?_;clear r1;subst Ja
 cases q with
 | cons z l=>refine i6 r2.ofCons λN N e N=>?_;clear r2;cases e
 | nil=>
  rcases U with rfl | ⟨a,rfl,M⟩
  ·cases X with
   | none=>rfl
   | bool b=>cases rX.ofBool
   | int i=>refine d4 rX.ofInt λt e=>?_;cases e
   | str i=>refine d4 rX.ofStr λt e=>?_;cases e
   | tup l=>refine v8 rX.ofTup λa vs n e N=>?_;cases e
   | ref a=>cases rX.ofRef
  ·cases X with
   | none=>cases rX.ofNone
   | bool b=>cases rX.ofBool
   | int i=>refine d4 rX.ofInt λt e=>?_;cases e
   | str i=>refine d4 rX.ofStr λt e=>?_;cases e
   | tup l=>refine j8 rX.ofTup λb u m e P N=>?_;cases e;exact(M _ _ P).elim
   | ref b=>rfl
theorem Rep.nz(k:TupsZ TO h h'):nz x=true->Rep h v x->Rep h' v x:=
 V.rec (motive_1:=λx=>∀ v,Internal.nz x=true->Rep h v x->Rep h' v x) (motive_2:=λl=>∀ c,nzL l=true->d9 h c l->d9 h' c l) (λN N r=>r) (λN N N r=>r) (λN N N r=>r) (λN N N r=>r)
  (λl y v q r=>by
   refine j8 r.ofTup λa c n e P r=>d5 (bF.mp (show(!Internal.zp l&&nzL l)=true from q)) λu w=>⟨a,c,n,e,k.keep _ _ _ (λJa=>?_) P,y _ w r⟩
   rw[Ja] at P;rw[k.zp P r] at u;cases u) (λN N N r=>r) (λN N r=>r)
  (λx l U hl c q r=>by
   refine g8 r.ofCons λv M e r1 r2=>d5 (bF.mp (show(Internal.nz x&&nzL l)=true from q)) λu w=>?_
   exact⟨v,M,e,U _ u r1,hl _ w r2⟩) x v
theorem d9.nz(k:TupsZ TO h h')(q:nzL l=true)(r:d9 h vs l):d9 h' vs l:=by
 induction l generalizing vs with
 | nil=>exact r
 | cons x l ih=>
  exact g8 r.ofCons λv M e r1 r2=>d5 (bF.mp (show(Internal.nz x&&nzL l)=true from q)) λc u=>⟨v,M,e,r1.nz k c,ih u r2⟩
def nzO:AObj->Bool
 | .L l=>nzL l
 | .di l=>nzL (l.map (·.2))
 | .ds l=>nzL (l.map (·.2))
 | .ex _=>true
 | .ob _ _=>true
 | .na l=>nzL (l.map (·.2))
def NZ(Z:Hp):Prop:=∀ a o,Z a=some o->nzO o=true
def NR(J:List (Option V)):Prop:=∀ (i:Nat) (v:V),J[i]?=some (some v)->nz v=true
theorem NZ.upd(h:NZ Z)(P:nzO o=true):NZ (upd Z a o):=λb p e=>by
 by_cases q:b=a
 ·rw[q,d6] at e;k_extra"bQ";exact P
 ·rw[e8 _ _ q] at e;exact h b p e
def O4(wr:List Addr)(h h':Heap):Prop:=∀ b o,b∉wr->h.get? b=some o->h'.get? b=some o
section
variable{g:G}{wr:List Addr}
theorem o6.nz{K:Type}[DecidableEq K]{knd:KeyKind prog w K}{l:List (K×V)}(x:o6 knd h a l)(q:nzL (l.map (·.2))=true)(t:TupsZ TO h h')(k:∀ u,h.get? a=some u->h'.get? a=some u):o6 knd h' a l:=by
 k_extra"bt";rintro c d r n;exact v8 d λo M ep P p=>(λz_ y=>y c ⟨o,M,ep,k o P,p⟩ ⟨r.1,r.2.nz t q⟩ n)
theorem Te(h:nzL l=true):∀ {x:V},x∈l->nz x=true:=by
 induction l with
 | nil=>intro x q;cases q
 | cons y l ih=>
  intro x q;have h:(Internal.nz y&&nzL l)=true:=h;rw[cG] at h;rcases au.mp q with e | e
  ·rw[e];exact h.1
  ·exact ih h.2 e
theorem u5.nz(x:u5 g h a o)(q:nzO o=true)(t:TupsZ TO h h')(k:∀ ob,h.get? a=some ob->h'.get? a=some ob):u5 g h' a o:=by
 cases o with
 | L l=>refine a7 x λvs hp r=>?_;exact⟨vs,hp.at k,r.nz t q⟩
 | di l=>exact o6.nz x q t k
 | ds l=>exact o6.nz x q t k
 | ex y=>refine j8 x λC oe vs h1 e h2=>?_;exact⟨C,oe,vs,h1,k _ e,h2⟩
 | ob y d=>refine a7 x λC h1 e=>?_;exact⟨C,h1,k _ e⟩
 | na l=>refine f6 x λm h1 h3 h2=>?_;exact⟨m,h1.at λo e=>k o e,h3,λp hp=>by refine a7 (h2 p hp) λu a b=>?_;exact⟨u,a,b.nz t (Te q (dM hp))⟩⟩
theorem Sim.nz(x:Sim g Z h)(q:NZ Z)(e:O4 wr h h')(t:TupsZ TO h h')(Za:∀ b∈wr,Z b=none)(L:∀ b∈wr,g.h₀.get? b=none):Sim g Z h':=
 ⟨λb o Y=>e b o (λm=>by rw[L b m] at Y;exact f8 Y) (x.stays b o Y),λa o M=>⟨(x.objs a o M).1.nz (q a o M) t λu c=>e a u (λm=>by rw[Za a m] at M;exact f8 M) c,(x.objs a o M).2⟩⟩
theorem M1.nz(y:M1 env h m x v)(q:∀ V,v=some V->Internal.nz V=true)(t:TupsZ TO h h')(k:∀ y c,env.cells.lookup y=some c->∀ o,h.get? c=some o->∃ o',h'.get? c=some o'/\o'.data=o.data):M1 env h' m x v:=by
 k_extra"cY"
 ·exact .inl ⟨e,λV u=>by refine a7 (y V u) λr E C=>?_;exact⟨r,E,C.nz t (q V u)⟩⟩
 ·exact .inr ⟨e,c,r,hc,Cell.kept hcell λo q=>k x c hc o q,λV u=>by refine a7 (y V u) λr E C=>?_;exact⟨r,E,C.nz t (q V u)⟩⟩
theorem Inv.nz(Ja:Inv g F A env J Z s)(w:NZ Z)(x:NR J)(e:O4 wr s.heap h')(t:TupsZ TO s.heap h')(Za:∀ b∈wr,Z b=none)(S:∀ b∈wr,¬ ownOf env b)(I:∀ b∈wr,g.h₀.get? b=none)(X:∀ b∈wr,¬ inF A b) :
  Inv g F A env J Z {s with heap:=h',toks:=tk}:=by
 refine a7 Ja.loc.ns λm hn hv=>?_
 have hl:∀ b o,ownOf env b->s.heap.get? b=some o->h'.get? b=some o:=λb o Y H=>e b o (λq=>S b q Y) H
 refine⟨Ja.scope,Ja.fn,Ja.glob,Ja.bltn,Ja.room,Ja.units,Ja.quiet,Ja.sim.nz w e t Za I,
  ⟨Ja.loc.len,⟨m,hn.at' λo ho=>hl _ o (.inl rfl) ho,λi y v E C=>(hv i y v E C).nz (λV u=>x i V (by rw[C,u])) t λy c hc o ho=>⟨o,hl c o (.inr ⟨y,hc⟩) ho,rfl⟩⟩,Ja.loc.free,λy c hc=>?_,Ja.loc.apart,Ja.loc.other⟩,Ja.base,Ja.nd,?_⟩
 ·k_extra"ax"
 ·refine Ja.frs _ ?_;rintro e0 l ha hf all
  k_extra"0"
  rintro L K D Y M o ho d;exact(λz_ k_=>k_ L K D Y M o (e L o (λq=>X L q ⟨_,v,ha,hv,D⟩) ho) d)
theorem Step.nz(x:Step fr own Z c s sw)(e:O4 wr sw.heap h')(u:∀ b∈wr,s.heap.get? b=none):Step fr own Z c s {sw with heap:=h',toks:=tk}:=by
 have ne:∀ b o,s.heap.get? b=some o->b∉wr:=λb o hb q=>by rw[u b q] at hb;exact f8 hb
 k_extra"C"
end
section
variable{g:G}
def T8(Q:j5)(Ja:Nat->List (Option V)->Hp->Prop)(i:Nat):j5:=λf J Z=>match f with
 | .next=>Ja i J Z
 | .cont=>Ja i J Z
 | .brk=>Q .next J Z
 | .ret v=>Q (.ret v) J Z
structure ZipK(a b:Addr)(l m:List V)(J:List (Option V))(Z:Hp):Prop where
 la:Z a=some (.L l)
 lb:Z b=some (.L m)
 refs:∀ x∈l,∃ c o,x=.ref c/\Z c=some o
 nz:NZ Z
 nr:NR J
def vz(g:G)(F:Blk)(A:Around)(env:Env)(l m:List V)(a b:Addr)(Ja:Nat->List (Option V)->Hp->Prop)(z U D Y M:Addr)(Z:Hp)(s:Shared)(n:Nat)(s':Shared):Prop:=
 ∀ H:Prop,(∀ (i:Nat) (C:List (Option V)) (y:Hp) (u v:Value) (Za:i+n=min l.length m.length+1) (S:i<=min l.length m.length) (L:Ja i C y) (R:IsZip s'.heap z U D .none) (q:IsPair s'.heap U (.ref Y) (.ref M)) (I:IsPair s'.heap D u v) (Q:u=.none∨∃ c,u=.ref c/\V.ref c∈l)
  (K:s'.heap.IsListIter Y a i) (x:s'.heap.IsListIter M b i) (E:∀ w∈[z,D,Y,M],y w=none) (P:Inv g F A env C y s') (O:Step (inF A) (ownOf env) Z y s s'),H)->H
theorem N6{o p:Obj}(e:some o=some p)(P:o.cls=.type x)(M:p.cls=.type y):x=y:=by
 cases e;injection (P.symm.trans M)
theorem u5.noTup{h:Heap}(x:u5 g h c o)(w:Array Value)(m:Nat):h.get? c≠some {cls:=.type "tuple",data:=.seq w m}:=λe=>by
 cases o with
 | L l=>obtain⟨A,⟨n,M⟩,_⟩:=x;exact absurd (N6 (M.symm.trans e) rfl rfl) (by decide)
 | di l=>refine k9 (o6.has x) λY ep q=>?_;exact absurd (N6 (q.symm.trans e) rfl rfl) (by decide)
 | ds l=>refine k9 (o6.has x) λY ep q=>?_;exact absurd (N6 (q.symm.trans e) rfl rfl) (by decide)
 | ex y=>refine I5 x λC E A N q O N=>?_;rw[q] at e;cases e;cases O
 | ob y d=>refine a7 x λC N q=>?_;have:=congrArg Obj.cls (d7 (q.symm.trans e));cases this
 | na l=>obtain⟨D,⟨o,Y,ep,P,u,-⟩,-⟩:=x;have q:=d7 (P.symm.trans e);subst q;cases u
theorem ym{h:Heap}{U:Addr}(S:Sim g Z h)(K:ZipK a b l m J Z)(hz:IsZip h z U y .none)(A:IsPair h y u v)(L:u=.none∨∃ c,u=.ref c/\V.ref c∈l)
  (D:h.IsListIter Y a j) (x:h.IsListIter M b k) (e:O4 [z,y,Y,M] h h'):TupsZ y h h':=by
 refine⟨λc X n O P=>e c _ (λq=>?_) P,λX n P=>?_⟩
 ·refine f6 D λo1 E c1 I=>f6 x λo2 C c2 Za=>?_
  k_extra"b2"
  ·rw[q] at P;exact absurd (N6 (hz.symm.trans P) rfl rfl) (by decide)
  k_extra"b2"
  ·exact O q
  k_extra"b2"
  ·rw[q] at P;exact absurd (N6 (E.symm.trans P) c1 rfl) (by decide)
  k_extra"b2"
  ·rw[q] at P;exact absurd (N6 (C.symm.trans P) c2 rfl) (by decide)
  cases q
 ·have Q:=A.symm.trans P
  cases Q;refine⟨u,v,rfl,L.imp id λq=>a7 q λc Ja H=>?_⟩
  try clear q;subst Ja
  refine i6 (K.refs _ H) λT o O R=>?_
  cases O;exact⟨c,rfl,λw m=>(S.objs c o R).1.noTup w m⟩
theorem za(h:nzL l=true):∀ {i:Nat} {x:V},l[i]?=some x->nz x=true:=by
 induction l with
 | nil=>intro i x e;cases e
 | cons y l ih=>
  intro i x e;refine d5 (bF.mp (show(Internal.nz y&&nzL l)=true from h)) λc K=>?_
  cases i with
  | zero=>cases e;exact c
  | succ i=>exact ih K e
theorem bj8(M:a<N)(Y:b<N):ZipApart (N+4) (N+2) (N+3) N (N+1) a b:=by
 constructor<;>first | exact bR (jH (by decide)) | exact dF (jH (by decide)) | exact bR (Nat.add_lt_add_left (by decide) N) | exact dF (Nat.add_lt_add_left (by decide) N) | exact bR (aX M (cC ..)) | exact dF (aX M (cC ..)) | exact bR (aX Y (cC ..)) | exact dF (aX Y (cC ..)) | exact bR M | exact dF M | exact bR Y | exact dF Y
theorem zb:∀ c∈[N+4,N+3,N,N+1],N<=c:=λc O=>by simp at O;exact ca9 O
theorem BL(O:c∉[z,q,Y,M]):c≠z/\c≠q/\c≠Y/\c≠M:=by simpa using O
theorem bU1{X:n5}(hh:A.handled=none)(D:ZipApart z TI L Y M a b)
  (f0:∀ c∈[z,L,Y,M],s.heap.get? c=none) (E:∀ c∈[z,L,Y,M],¬ ownOf env c) (R:∀ c∈[z,L,Y,M],g.h₀.get? c=none) (O:∀ c∈[z,L,Y,M],¬ inF A c)
  (hturn:∀ i x y H Z',l[i]?=some x->m[i]?=some y->Ja i H Z'->ZipK a b l m H Z'/\Asg g F (.Tuple es k tp) (.tup [x,y]) H Z' (λJ''=>Exs g F body J'' Z' (T8 Q Ja (i+1)) X))
  (hend:∀ H Z',Ja (min l.length m.length) H Z'->ZipK a b l m H Z'/\Q .next H Z') (kO:∀ f s',I7 g F A env Z s Q f s'->QQ (.ok f) s') (kE:∀ e s',notedBy (model g.prog g.w) A env (λx s'=>cameBackBy (model g.prog g.w) A env (x9 g F A env Z s X) x s') e s'->notedBy (model g.prog g.w) A env (λx s'=>QQ (.error x) s') e s') (h₀:vz g F A env l m a b Ja z TI L Y M Z s n₀ sx) :
  codeAny (model g.prog g.w) A (.forLoop (.Tuple es k tp) (.ref z) body [] env) QQ sx:=by
 refine Bv (vz g F A env l m a b Ja z TI L Y M Z s) ?_ n₀ h₀;k_extra"b1";rintro i H Z' u v hn hi hJ' kz kTI kTO ku k1 k2 C I' st';by_cases hlt:i<min l.length m.length
 ·have T:i<l.length:=aX hlt (cB _ _)
  have him:i<m.length:=aX hlt (eV _ _);obtain⟨K,asg⟩:=hturn i _ _ _ _ (ak T) (ak him) hJ';k_extra"ag";obtain⟨x,hx,rx⟩:=rl'.get (ak T);obtain⟨y,hy,ry⟩:=rm'.get (ak him);refine wpAny_pyNext_zip_item D kz kTI kTO k1 k2 (xs:=xs') (ys:=ys') ⟨_,oa',rfl,_,rfl⟩ ⟨_,ob',rfl,_,rfl⟩ (by rw[<- aU];exact hx) (by rw[<- aU];exact hy) λh1 p1 p2 p3 p4 p5 p6 kp=>?_
  refine wpAny_letOwnedTupleGo_zip p1 λS r1 sb=>?_
  have ex:O4 [z,L,Y,M] s'.heap S:=λc o hc e=>by
   exact G6 (BL hc) λq1 q2 q3 q4=>sb.extBut c o q1 (kp c o q1 q2 q3 q4 e)
  have tz:TupsZ L s'.heap S:=ym I'.sim K kz kTO ku k1 k2 ex;have I1:Inv g F A env H Z' {s' with heap:=S}:=I'.nz (tk:=s'.toks) K.nz K.nr ex tz C E R O
  have st1:Step (inF A) (ownOf env) Z Z' s {s' with heap:=S}:=st'.nz (tk:=s'.toks) ex f0
  have hTz:s'.heap.objs.size≠z:=dF (bC kz);have rT:Rep S (.ref s'.heap.objs.size) (.tup [l[i],m[i]]):=.tup (sb.extBut _ _ hTz p5) (.cons (rx.nz tz (za (K.nz a _ K.la) (ak T))) (.cons (ry.nz tz (za (K.nz b _ K.lb) (ak him))) .nil));have mz:z∈[z,L,Y,M]:=.head _;have m1:Y∈[z,L,Y,M]:=.tail _ (.tail _ (.head _));have m2:M∈[z,L,Y,M]:=.tail _ (.tail _ (.tail _ (.head _)));have t1:IsPair S TI (.ref Y) (.ref M):=ex TI _ (by simp;exact⟨D.TIz,D.TITO,D.TIi1,D.TIi2⟩) kTI
  have t2:IsPair S L x y:=sb.extBut _ _ D.TOz p2;refine f6 p3 λo1 e1 c1 d1=>f6 p4 λo2 e2 c2 d2=>?_
  have hu':x=.none∨∃ c,x=.ref c/\V.ref c∈l:=by
   refine i6 (K.refs _ (cT T)) λc o hc N=>?_
   rw[hc] at rx;exact .inr ⟨c,rx.ofRef,hc▸cT T⟩
  refine asg.run A env _ _ _ _ I1 hh rT λs3 J3 I3 P hex=>?_
  have st13:=st1.trans P;k_extra"a5"
  clear p4;rintro f' J4 Za hf I4 I hq4;have U:=st13.trans I;have tu:=P.tups.trans I.tups;have z3:=P.exact r1 (C z mz) (E z mz) (O z mz);have y3:=P.exact (sb.extBut _ _ D.i1z e1) (C Y m1) (E Y m1) (O Y m1);have y4:=I.exact y3 (C Y m1) (E Y m1) (O Y m1);have w3:=P.exact (sb.extBut _ _ D.i2z e2) (C M m2) (E M m2) (O M m2);have w4:=I.exact w3 (C M m2) (E M m2) (O M m2);have hZ4:∀ w∈[z,L,Y,M],Za w=none:=gh.mpr ⟨I.new _ _ z3 (C z mz),gh.mpr ⟨I.new _ _ (P.tups _ _ _ t2) (C L (.tail _ (.head _))),gh.mpr ⟨I.new _ _ y3 (C Y m1),gh.mpr ⟨I.new _ _ w3 (C M m2),λN h=>(by cases h)⟩⟩⟩⟩
  have fin:Ja (i+1) J4 Za->vz g F A env l m a b Ja z TI L Y M Z s (n-1) s4:=λhj=>
   (λN k_=>k_ (i+1) J4 Za x y (by exact l_3 hn hi) hlt hj (I.exact z3 (C z mz) (E z mz) (O z mz)) (tu _ _ _ t1) (tu _ _ _ t2) hu' ⟨o1,y4,c1,d1⟩ ⟨o2,w4,c2,d2⟩ hZ4 I4 U)
  cases hf with
  | next=>exact⟨n-1,by exact l_4 hn hi,fin hq4⟩
  | cont=>exact⟨n-1,by exact l_4 hn hi,fin hq4⟩
  | brk=>exact kO _ _ (λN k_=>k_ .next J4 Za .next I4 U hq4)
  | ret r=>exact kO _ _ (λN k_=>k_ (.ret _) J4 Za (.ret r) I4 U hq4)
 ·have hii:i=min l.length m.length:=by exact l_2 hi hlt
  rw[hii] at hJ' k1 k2;refine d5 (hend _ _ hJ') λK hQ=>?_
  k_extra"ag";have hl1:=rl'.length;have hl2:=rm'.length;rw[aJ] at hl1 hl2;refine wpAny_pyNext_zip_end hh D kz kTI kTO k1 k2 (xs:=xs') (ys:=ys') ⟨_,oa',rfl,_,rfl⟩ ⟨_,ob',rfl,_,rfl⟩ ?_ λS kp=>wpAny_execs_nil ?_
  ·by_cases q:l.length<=m.length
   ·exact .inl (gU (by exact bg0 hl1 q))
   ·exact .inr (gU (by exact cs8 hl2 q))
  ·have ex:O4 [z,L,Y,M] s'.heap S:=λc o hc e=>by
    exact G6 (BL hc) λq1 q2 q3 q4=>kp c o q1 q2 q3 q4 e
   exact kO _ _ (λN k_=>k_ .next H Z' .next (I'.nz (tk:=s'.toks) K.nz K.nr ex (ym I'.sim K kz kTO ku k1 k2 ex) C E R O) (st'.nz (tk:=s'.toks) ex f0) hQ)
def ZV(g:G)(F:Blk)(Y:List Expr)(k:Nat)(A:Pos)(c:List Stmt)(Q:j5)(X:n5)(J:List (Option V))(vs:List V)(Z:Hp):Prop:=
 ∀ q:Prop,(∀ (a b:Addr) (l m:List V) (e:vs=[.ref a,.ref b]) (I:Z a=some (.L l)) (D:Z b=some (.L m)) (Ja:Nat->List (Option V)->Hp->Prop) (M:Ja 0 J Z)
  (R:∀ i x y w u,l[i]?=some x->m[i]?=some y->Ja i w u->ZipK a b l m w u/\Asg g F (.Tuple Y k A) (.tup [x,y]) w u (λS=>Exs g F c S u (T8 Q Ja (i+1)) X)) (C:∀ w u,Ja (min l.length m.length) w u->ZipK a b l m w u/\Q .next w u),q)->q
theorem Qv{X:n5}(hq:F.q=true)
  (hk:F.sc.names.lookup u=some .globalImplicit) (hg:g.mg u=none) (hb:g.mb u=some (.type "zip")) (hd:(u==("__debug__" : Str))=false)
  (h:Evs g F [ea,eb] J Z (ZV g F es k tp M Q X J) (λx w=>X x J w)) :
  Ex g F (.For (.Tuple es k tp) (.Call (.Name u np) [ea,eb] [] cp) M [] pos) J Z Q X:=(λA R s I=>by
 refine wpAny_For (lZ (I.nB hk hd hg hb (d5 (h A R s cp I) λhw hp=>callWith_excType hp (s7 hp (lY hw (λvs O p=>?_) λj j p=>p.toS))))) (λx=>rfl)
 k_extra"7";rintro Vs w rs E L p_;refine p_ _ ?_;clear p_;rintro a b l m rfl la lb Ja hJ Za H;refine g8 rs.two λva vb qa ra rb=>?_;subst qa
 obtain rfl:=ra.ofRef;obtain rfl:=rb.ofRef;obtain⟨xs,⟨na,oa⟩,rl⟩:=(E.sim.objs a _ la).1;obtain⟨ys,⟨nb,ob⟩,rm⟩:=(E.sim.objs b _ lb).1;refine call_zip_2 (xs:=xs) (ys:=ys) ⟨_,oa,rfl,_,rfl⟩ ⟨_,ob,rfl,_,rfl⟩ λh' hz hTI hTO hi1 hi2 hsz keep=>?_
 generalize hN:O.heap.objs.size=N at *;have lt:∀ {c o},O.heap.get? c=some o->c<N:=λe=>hN▸bC e
 have D:=bj8 (lt oa) (lt ob);have fresh:∀ c,N<=c->O.heap.get? c=none:=λc K=>by
  cases e:O.heap.get? c with
  | none=>rfl
  | some o=>exact absurd (lt e) (dJ.mpr K)
 have Y:∀ c∈[N+4,N+3,N,N+1],s.heap.get? c=none:=λc K=>by
  cases e:s.heap.get? c with
  | none=>rfl
  | some o=>refine a7 (L.dom _ o e) λo' P j=>?_;rw[fresh c (zb c K)] at P;cases P
 have U:∀ c∈[N+4,N+3,N,N+1],w c=none:=λc K=>by
  cases e:w c with
  | none=>rfl
  | some o=>
   refine d4 ((E.sim.objs c o e).1.has) λob e'=>?_
   rw[fresh c (zb c K)] at e';cases e'
 have S:∀ c∈[N+4,N+3,N,N+1],¬ ownOf R c:=λc K=>I.notOwn (Y c K)
 have q:∀ c∈[N+4,N+3,N,N+1],g.h₀.get? c=none:=λc K=>I.notBase (Y c K)
 have hnf:∀ c∈[N+4,N+3,N,N+1],¬ inF A c:=λc K=>I.notFr (Y c K)
 have C:Step (inF A) f5 w w O {O with heap:=h'}:=Step.grow (tk:=O.toks) keep
 have y:Inv g F A R J w {O with heap:=h'}:=E.keep C (E.sim.grow keep)
 have T:Step (inF A) f5 Z w s {O with heap:=h'}:=L.trans C
 clear C;refine wpAny_pyIter_zip hz ?_;exact bU1 (I.quiet hq) D Y S q hnf Za H (λj j p=>p) (λj j p=>p) (n₀:=min l.length m.length+1)
  (λj k_=>k_ 0 J w .none .none (iJ _) (aY _) hJ hz hTI hTO (.inl rfl) hi1 hi2 U y (T.mono λj h=>h.elim)))
end
def rl(scope sc:Scope):Scope:=
 {scope with names:=scope.names.map fun(n,k)=>if (k==.free&&sc.kind==.function&&sc.names.lookup n==some .cell) then(n,.cell) else(n,k)}
noncomputable def w6(scope:Scope):List Str:=(scope.names.filter (·.2==.free)).map (·.1)
def H0(F:Blk)(scope:Scope)(x:Str)(c:List Nat):Bool:=
 scope.names.all (λy=>y.2 != .cell)&&(scope.kind==.function)&&(scope.names.all λy=>y.2 != .local||scope.names.lookup y.1==some .local)&&(scope.names.lookup x==some .local) &&
 decide (x::w6 scope).Nodup&&((w6 scope).all λy=>F.sc.names.lookup y==some .cell&&scope.names.lookup y==some .free)&&decide (c.map (λj=>F.vars[j]?)=(w6 scope).map some)
def B7(F:Blk)(scope:Scope)(x:Str):Blk:=⟨rl scope F.sc,x::w6 scope,F.d,F.q⟩
noncomputable def s6(J:List (Option V))(c:List Nat):List (Option V):=c.map λj=>(J[j]?).join
noncomputable def y0(cells:List (Str×Addr)):List (Str×NameKind)->List (Str×Addr)->List (Str×Addr)
 | [],acc=>acc
 | (n,k)::r,acc=>y0 cells r (if k==.free then(n,(cells.lookup n).getD 0)::acc else acc)
theorem bi4(h:∀ y∈scope.names,y.2=.free->(env.cells.lookup y.1).isSome=true):closureFor scope env=pure (y0 env.cells scope.names []):=by
 unfold closureFor;have:∀ (names:List (Str×NameKind)) (acc:List (Str×Addr)),(∀ y∈names,y.2=.free->(env.cells.lookup y.1).isSome=true)->
   (forIn names acc λx cs=>if (x.2==NameKind.free)=true then(do let c <- cellOf env x.1;pure (ForInStep.yield ((x.1,c)::cs))) else pure (ForInStep.yield cs))=(pure (y0 env.cells names acc):Sem (List (Str×Addr))):=by
  intro names;induction names with
  | nil=>intro acc _;rfl
  | cons y r ih=>
   intro acc hy;obtain⟨n,k⟩:=y;rw[List.forIn_cons];cases hk:k==NameKind.free with
   | false=>
    simp only[hk,Bool.false_eq_true,if_false,pure_bind,y0]
    exact ih acc λy hy'=>hy y (bV _ hy')
   | true=>
    obtain⟨c,hc⟩:=cX.mp (hy (n,k) du (by simpa using hk))
    have hcell:cellOf env n=pure c:=by unfold cellOf;rw[hc]
    simp only[hk,if_true,hcell,pure_bind,y0,hc,Option.getD_some]
    exact ih _ λy hy'=>hy y (bV _ hy')
 simp only[bind_pure]
 exact(this scope.names [] h)
theorem Lb:∀ {acc:List (Str×Addr)},(∀ y T,acc.lookup y=some T->cells.lookup y=some T)->(∀ y∈names,y.2=.free->(cells.lookup y.1).isSome=true)->
  (y0 cells names acc).lookup x=some c->cells.lookup x=some c:=by
 induction names with
 | nil=>intro acc M u h;exact M x c h
 | cons p r w=>
  obtain⟨n,k⟩:=p;intro acc M u h;refine w (acc:=if k==.free then(n,(cells.lookup n).getD 0)::acc else acc) (λy T e=>?_) (λy I=>u y (bV _ I)) h
  by_cases hk:(k==.free)=true
  ·rw[if_pos hk,cD] at e
   cases I:y==n with
   | true=>
    rw[I] at e;refine d4 (cX.mp (u (n,k) du (beq_iff_eq.mp hk))) λc2 q=>?_
    rw[q] at e
    k_extra"bQ"
    rw[beq_iff_eq.mp I,q];rfl
   | false=>rw[I] at e;exact M y T e
  ·rw[if_neg hk] at e;exact M y T e
theorem YD:∀ {acc:List (Str×Addr)},((acc.lookup x).isSome=true∨∃ y∈names,y.1=x/\y.2=.free)->((y0 cells names acc).lookup x).isSome=true:=by
 induction names with
 | nil=>
  intro acc h;rcases h with h | ⟨y,hy,_⟩
  ·exact h
  ·cases hy
 | cons p r u=>
  obtain⟨n,k⟩:=p;intro acc h;refine u (acc:=if k==.free then(n,(cells.lookup n).getD 0)::acc else acc) ?_
  rcases h with h | ⟨y,hy,E,C⟩
  ·left
   by_cases hk:(k==.free)=true
   ·rw[if_pos hk,cD]
    cases x==n with
    | true=>rfl
    | false=>exact h
   ·rw[if_neg hk];exact h
  ·clear u;rcases au.mp hy with rfl | hy
   ·left
    have c:=E;have q:=C;subst c q;rw[if_pos (beq_self_eq_true _),cD,beq_self_eq_true];rfl
   ·exact .inr ⟨y,hy,E,C⟩
theorem Mm{scope:Scope}{names:List (Str×NameKind)}:names.lookup x=some k->
  (names.map fun(n,k)=>if (k==NameKind.free&&sc.kind==.function&&sc.names.lookup n==some .cell) then(n,NameKind.cell) else(n,k)).lookup x =
   some (if (k==NameKind.free&&sc.kind==.function&&sc.names.lookup x==some .cell) then .cell else k):=by
 induction names with
 | nil=>intro h;cases h
 | cons p r c=>
  obtain⟨n,Y⟩:=p;intro h;rw[cD] at h;show iY x ((if (Y==NameKind.free&&sc.kind==.function&&sc.names.lookup n==some .cell)=true then(n,NameKind.cell) else(n,Y))::_)=_
  have E:∀ (v:NameKind) (l:List (Str×NameKind)),iY x ((n,v)::l)=if (x==n)=true then some v else iY x l:=λv l=>by rw[cD];cases x==n<;>rfl
  have O:∀ (b:Bool) (l:List (Str×NameKind)),iY x ((if b=true then(n,NameKind.cell) else(n,Y))::l)=if (x==n)=true then some (if b=true then .cell else Y) else iY x l:=λb l=>by
   cases b
   ·exact E _ _
   ·exact E _ _
  rw[O];cases U:x==n with
  | true=>
   rw[U] at h;replace h:=d7 h;subst h;rw[beq_iff_eq.mp U];rfl
  | false=>
   rw[U] at h;exact c h
def H9(g:G)(F:Blk)(q:List Expr)(J:List (Option V))(Z:Hp)(Q:Bool->Hp->Prop):Prop:=
 ∀ A R s (E:Value->Shared->Prop),Inv g F A R J Z s->wpAny (model g.prog g.w) A (forIn q true λc r=>if r=true then do let ok <- isTrue c R (eval c R);pure (ForInStep.yield ok) else pure (ForInStep.yield r)) (I2 g F A R J Z s Q) E s
def noX:Str->Hp->Prop:=λN N=>False
theorem YQ(h:Q true Z):H9 g F [] J Z Q:=(λA R s E I=>wpAny_tests_nil (λz_ c=>c Z I Step.refl h))
theorem bL1(h:Tst g F c J Z Q noX):H9 g F [c] J Z Q:=(λA R s E I=>wpAny_tests_one (lY (h A R s I) (λN N p=>p) λN N p=>p.no))
section
variable{g:G}
def CK(St:Nat->Heap->Prop)(D It:Addr)(i:Nat)(acc:List V)(Z:Hp)(h:Heap):Prop:=
 ∀ q:Prop,(∀ (w:Array Value) (I:St i h) (y:h.PlainList D w) (C:d9 h w.toList acc) (u:Z It=none) (x:Z D=none),q)->q
def tY(g:G)(A:Around)(L:List V)(Ja:List V->List V->Hp->Prop)(St:Nat->Heap->Prop)(D C It:Addr)(Z:Hp)(s:Shared)(n:Nat)(s':Shared):Prop:=
 ∀ q:Prop,(∀ (i:Nat) (acc:List V) (Z':Hp) (w:Str->Option Value) (Za:i+n=L.length+1) (S:i<=L.length) (E:acc.length<=i) (H:Ja (L.drop i) acc Z') (I:CK St D It i acc Z' s'.heap) (M:s'.heap.Ns C w)
   (u:Z' C=none) (x:Sim g Z' s'.heap) (y:Step (inF A) f5 Z Z' s s'),q)->q
section
variable{L:List V}{K:Hp->Prop}{D It c:Addr}{i j:Nat}{acc:List V}{h:Heap}
theorem CK.but(k:CK St D It i acc Z h)(W:IterOK g A It L K St)(e:Heap.ExtBut c h h')(t:l7 h h')(w:It≠c)(I:D≠c):CK St D It i acc Z h':=by
 k_extra"cT";exact(λz_ u=>u ys (W.frame _ _ _ a (λo P=>e It o w P) t) ⟨n,e D _ I b⟩ (q.mono t) d f)
theorem CK.on(k:CK St D It i acc Z h)(e:Heap.ExtBut It h h')(t:l7 h h')(n:D≠It)(E:St j h'):CK St D It j acc Z h':=by
 refine k _ ?_;clear k;rintro x a ⟨w,b⟩ q d f;exact(λz_ u=>u x E ⟨w,e D _ n b⟩ (q.mono t) d f)
theorem CK.step{s s':Shared}(k:CK St D It i acc Z s.heap)(W:IterOK g A It L K St)(st:Step (inF A) f5 Z Z' s s')(w:¬ inF A It)(I:¬ inF A D):CK St D It i acc Z' s'.heap:=by
 k_extra"cT";exact i6 (W.obj _ _ a) λo N P N=>(λN u=>u ys (W.frame _ _ _ a (λU Za=>by rw[P] at Za;replace Za:=d7 Za;subst Za;exact st.thing d P w) st.tups) ⟨n,st.thing f b I⟩ (q.mono st.tups) (st.new It _ P d) (st.new D _ b f))
end
theorem zE(ok:H0 F scope x H=true):(∀ y∈scope.names,y.2≠.cell)/\scope.kind=.function/\(∀ y∈scope.names,y.2≠.local∨scope.names.lookup y.1=some .local)/\scope.names.lookup x=some .local/\(x::w6 scope).Nodup/\(∀ y∈w6 scope,F.sc.names.lookup y=some .cell/\scope.names.lookup y=some .free)/\H.map (λj=>F.vars[j]?)=(w6 scope).map some:=by
 unfold H0 at ok;simp only[cG,decide_eq_true_eq,bc,fJ,beq_iff_eq,bne_iff_ne] at ok
 obtain⟨⟨⟨⟨⟨⟨Q,q⟩,u⟩,U⟩,E⟩,w⟩,C⟩:=ok;exact⟨Q,q,u,U,E,w,C⟩
theorem yI(ok:H0 F scope x S=true)(I:Inv g F A env J Z s):∀ y∈scope.names,y.2=.free->(env.cells.lookup y.1).isSome=true:=by
 refine Y8 (zE ok) λQ M U hx hnd w Ja=>a7 I.loc.ns λY R E=>?_
 have q:∀ y∈w6 scope,∃ (k j:Nat) (c:Addr) (r:Option Value),S[k]?=some j/\(w6 scope)[k]?=some y/\F.vars[j]?=some y/\env.cells.lookup y=some c:=λy H=>by
  obtain⟨k,T⟩:=List.getElem?_of_mem H;have Za:(S.map (λj=>F.vars[j]?))[k]?=some (some y):=by rw[Ja,aB,T];rfl
  rw[aB] at Za;refine a7 (aR.mp Za) λj P hj'=>?_
  k_extra"ch"
  rcases E j y _ hj' (ak hlt) with ⟨hkd,_⟩ | ⟨_,c,r,O,_⟩
  ·have:=(w y H).1
   k_extra"aU"
   cases hkd
  ·exact⟨k,j,c,r,P,T,hj',O⟩
 have u:∀ y∈scope.names,y.2=.free->y.1∈w6 scope:=λy H e=>aM.mpr ⟨y,dD.mpr ⟨H,by simp[e]⟩,rfl⟩
 have C:∀ y∈scope.names,y.2=.free->(env.cells.lookup y.1).isSome=true:=λy H e=>by
  refine T7 (q y.1 (u y H e)) λN N c N N N N O=>?_
  rw[O];rfl
 exact C
theorem bq7(ok:H0 F scope x R=true)(I:Inv g F A env J Z s)(sm:Sim g Z' s'.heap)(st':Step (inF A) f5 Z Z' s s')(hns':s'.heap.Ns C m')(hmx:m' x=some rv)(hrv:Rep s'.heap rv v)(hZC:Z' C=none)(U:s.heap.get? C=none):Inv g (B7 F scope x) A (compEnvC scope (y0 env.cells scope.names []) C env) (some v::s6 J R) Z' s':=by
 k_extra"aD"
 have E:∀ y c,(y0 env.cells scope.names []).lookup y=some c->env.cells.lookup y=some c:=λy c e=>Lb (λN N e=>by exact f8 e) (yI ok I) e
 have hkx:(compEnvC scope (y0 env.cells scope.names []) C env).kindOf x=some .local:=by
  k_extra"bG"
 have hky:∀ y∈w6 scope,(compEnvC scope (y0 env.cells scope.names []) C env).kindOf y=some .cell:=λy H=>by
  show((relabel scope env).names).lookup y=_;have e1:=Mm (scope:=scope) (sc:=env.scope) ((hfr y H).2);have e2:(NameKind.free==NameKind.free&&env.scope.kind==.function&&env.scope.names.lookup y==some .cell)=true:=by
   rw[I.fn,I.scope,(hfr y H).1];rfl
  rw[e2] at e1;exact e1
 have M:∀ b,ownOf (compEnvC scope (y0 env.cells scope.names []) C env) b->b=C∨∃ y,env.cells.lookup y=some b:=λb Y=>by
  rcases Y with rfl | ⟨y,H⟩
  ·exact .inl rfl
  ·exact .inr ⟨y,E y b H⟩
 have T:=I.keep st' sm;refine a7 T.loc.ns λmE hnE hvE=>⟨?_,hkind,I.glob,I.bltn,I.room,I.units,I.quiet,sm,⟨?_,⟨m',hns',λi y u H hu=>?_⟩,λb Y=>?_,λy c O=>T.loc.live y c (E y c O),λy z c h1 h2=>T.loc.apart y z c (E y c h1) (E z c h2),λy c O q=>?_⟩,λb Y=>?_,hnd,by refine T.frs _ ?_;rintro Q l ha hf all;exact(λN k_=>k_ Q l ha hf all)⟩
 ·show relabel scope env=rl scope F.sc
  rw[<- I.scope];rfl
 ·show(some v::s6 J R).length=(x::w6 scope).length
  have:R.length=(w6 scope).length:=by have:=congrArg List.length hjs;simpa using this
  simp[s6,this]
 ·cases i with
  | zero=>
   simp[B7] at H hu
   subst H hu;exact .inl ⟨hkx,λW S=>by replace S:=d7 S;subst S;exact⟨rv,hmx,hrv⟩⟩
  | succ k=>
   have hy':(w6 scope)[k]?=some y:=by simpa[B7] using H
   have Ja:(s6 J R)[k]?=some u:=by simpa using hu
   obtain⟨j,hj,hj'⟩:∃ j,R[k]?=some j/\F.vars[j]?=some y:=by
    have h1:(R.map (λj=>F.vars[j]?))[k]?=some (some y):=by rw[hjs,aB,hy'];rfl
    rw[aB] at h1;exact aR.mp h1
   have hum:u=(J[j]?).join:=by
    unfold s6 at Ja;rw[aB,hj] at Ja;exact(d7 Ja).symm
   have w:=aL hy';k_extra"ch"
   have P:=ak hlt;rcases hvE j y _ hj' P with ⟨hkd,_⟩ | ⟨_,c,r,O,hcl,hval⟩
   ·have:=(hfr y w).1
    k_extra"aU"
    cases hkd
   ·obtain⟨c',Za⟩:=cX.mp (YD (cells:=env.cells) (x:=y) (names:=scope.names) (acc:=[]) (.inr (by
     refine a7 (aM.mp w) λz hz hz'=>d5 (dD.mp hz) λhz1 hz2=>?_
     exact⟨z,hz1,hz',by simpa using hz2⟩)))
    have:c'=c:=by have:=E y c' Za;rw[O] at this;exact(d7 this).symm
    subst this;refine .inr ⟨hky y w,c',r,Za,hcl,λW S=>hval W ?_⟩
    rw[hum,P] at S
    simpa using S
 ·rcases M b Y with rfl | ⟨y,H⟩
  ·exact hZC
  ·exact T.loc.free b (.inr ⟨y,H⟩)
 ·have hyc:=E y c O
  refine i6 (I.loc.live y c hyc) λN o h0 N=>?_
  have q':c=C:=q;rw[q',U] at h0;exact f8 h0
 ·rcases M b Y with rfl | ⟨y,H⟩
  ·exact I.notBase (U)
  ·exact I.base b (.inr ⟨y,H⟩)
theorem cl9(ok:H0 F scope x js=true){P:List V->Hp->Prop}{L:List V}{K:Hp->Prop}{Ja:List V->List V->Hp->Prop}(hLs:L.length<=sizeLine)
  (hturn:∀ v l acc Z',Ja (v::l) acc Z'->K Z'/\H9 g (B7 F scope x) ifs (some v::s6 J js) Z' (λb Z2=>(b=true->Ev g (B7 F scope x) elt (some v::s6 J js) Z2 (λy Z₃=>Ja l (acc++[y]) Z₃) noX)/\(b=false->Ja l acc Z2)))
  (hend:∀ acc Z',Ja [] acc Z'->K Z'/\P acc Z') {A:Around} {env:Env} {ce:Env} {s:Shared} {D:Addr} {C:Addr} {It:Addr} {QQ:Except Value Flow->Shared->Prop} (I:Inv g F A env J Z s) (W:IterOK g A It L K St)
  (T:D≠It) (S:It≠C) (hDC:D≠C) (fI:s.heap.get? It=none) (fD:s.heap.get? D=none) (fC:s.heap.get? C=none) (hce:compEnvC scope (y0 env.cells scope.names []) C env=ce)
  (fin:∀ acc Z' s',P acc Z'->Z' D=none->Inv g F A env J (upd Z' D (.L acc)) s'->Step (inF A) f5 Z (upd Z' D (.L acc)) s s'->(∃ m,s'.heap.Ns C m)->upd Z' D (.L acc) C=none->QQ (.ok .next) s') {n₀:Nat} {sx:Shared} (h₀:tY g A L Ja St D C It Z s n₀ sx) :
  codeAny (model g.prog g.w) A (.compLoop (.ListComp elt [⟨.Name x px,iter,ifs,0⟩] scope pos) 0 (.ref It) (.ref D) ce) QQ sx:=by
 k_extra"aD"
 have hkx:ce.kindOf x=some .local:=by
  rw[<- hce];k_extra"bG"
 have hsc:(ce.scope.kind==.class||(ce.scope.kind==.module&&ce.locals != ce.globals))=false:=by rw[<- hce];show(scope.kind==.class||(scope.kind==.module&&_))=false;rw[hkind];rfl
 have O:ce.locals=C:=by rw[<- hce];rfl
 obtain⟨R,hR⟩:∃ R,R=tY g A L Ja St D C It Z s:=⟨_,rfl⟩;have kR:∀ {n s'},tY g A L Ja St D C It Z s n s'->R n s':=λh=>hR▸h
 refine codeAny_compLoop_tests R ?_ n₀ (kR h₀);intro n s' hj;rw[hR] at hj;refine hj _ ?_;clear hj;rintro i acc Z' m' hn hi E Za ck hC' M sm' st';refine(id ck) _ ?_;rintro ys hst' hD' hR' hZI' hZD';refine i6 (W.obj i _ hst') λoI vI hoI hdI=>?_
 by_cases Q:i<L.length
 ·have hd:=eN Q
  rw[hd] at Za;refine d5 (hturn _ _ _ _ Za) λhK hcond=>W.item i L[i] Z' s' _ _ (ak Q) hst' sm' hK λv h' tk hr hst1 u=>?_
  have tu1:=R3 hoI hdI u;have hC1:=hC'.at' λo ho=>u C o (Ne.symm S) ho
  refine wpAny_assign_Name (wpAny_storeName_local (env:=ce) hkx (O▸hC1) (λh2 hn2 H=>?_) hsc)
  rw[O] at hn2 H;have tu2:=K5 hC1 H;have stp2:=(st'.but (tk:=tk) u fI).but (tk:=tk+1) H.extBut fC;have IC:=bq7 ok (F:=F) (C:=C) (v:=L[i]) I ((sm'.but u tu1 hZI' (I.notBase fI)).but H.extBut tu2 M (I.notBase fC)) stp2 hn2 (if_pos rfl) (hr.mono tu2) M fC;rw[hce] at IC;refine lY (hcond A _ _ _ IC) (λokb s3 p3=>p3 _ ?_) λN N p=>p
  clear p3;rintro Z3 I3 st3' hb;have k3:=((ck.on u tu1 T hst1).but W H.extBut tu2 S hDC).step W st3' (I.notFr fI) (I.notFr fD);cases okb with
  | false=>
   rw[if_neg (by decide)]
   exact a7 I3.loc.ns λm3 hm3 N=>⟨n-1,by exact l_4 hn hi,kR (λN k_=>k_ (i+1) acc Z3 m3 (l_3 hn hi) (Q) (jR E) (hb.2 rfl) k3 (O▸hm3) (I3.loc.free C (.inl O.symm)) I3.sim (stp2.trans st3'))⟩
  | true=>
   rw[if_pos rfl];refine pgo ((hb.1 rfl) A _ s3 I3) (λyv s4 Y Z4 ry I4 st4 hJ4=>?_) λN N p=>p.no
   have k4:=k3.step W st4 (I.notFr fI) (I.notFr fD);refine k4 _ ?_;clear k4;rintro ys hst4 ⟨nD,hD4⟩ hR4 hZI4 hZD4;refine a7 I4.loc.ns λm4 hm4 N=>?_
   rw[O] at hm4;have hys:ys.size<=sizeLine:=by have:=hR4.length;rw[aJ] at this;exact l_5 hLs E Q this
   refine wpAny_list_append_plain (hsz:=hys) ⟨nD,hD4⟩ λh5 hl5 U=>?_
   have tu5:l7 s4.heap h5:=λb vs n e=>(U.2 b (λq=>by rw[q,hD4] at e;simp at e)).trans e
   refine⟨n-1,by exact l_4 hn hi,kR (λN k_=>k_ (i+1) (acc++[Y]) Z4 m4 (l_3 hn hi) (Q) (by simp;exact E) hJ4 (λN k_=>k_ (ys.push yv) (W.frame _ _ _ hst4 (λo ho=>U.extBut It o (Ne.symm T) ho) tu5) hl5 ?_ hZI4 hZD4) (hm4.at' (λo ho=>U.extBut C o (Ne.symm hDC) ho)) (I4.loc.free C (.inl O.symm)) (I4.sim.but U.extBut tu5 hZD4 (I.notBase fD)) (((stp2.trans st3').trans st4).but (tk:=s4.toks) U.extBut fD))⟩
   rw[gK];exact(hR4.mono tu5).append (.cons (ry.mono tu5) .nil)
 ·have hii:i=L.length:=l_2 hi Q
  rw[hii,jt] at Za;refine W.done Z' s' _ _ (hii▸hst') sm' (hend _ _ Za).1 λh' tk u=>?_
  have tu1:=R3 hoI hdI u;have sim1:=sm'.but u tu1 hZI' (I.notBase fI);have w:Step (inF A) f5 Z Z' s {s' with heap:=h',toks:=tk}:=st'.but u fI
  refine d4 hD' λnD hDo=>?_
  have simD:Sim g (upd Z' D (.L acc)) h':=⟨sim1.stays,λa o e=>by
   by_cases ha:a=D
   ·subst ha;rw[d6] at e;k_extra"bQ"
    exact⟨⟨ys,⟨nD,u _ _ T hDo⟩,hR'.mono tu1⟩,I.notBase fD⟩
   ·rw[e8 _ _ ha] at e;exact sim1.objs a o e⟩
  have stpD:Step (inF A) f5 Z (upd Z' D (.L acc)) s {s' with heap:=h',toks:=tk}:=⟨w.same,w.dom,w.keep,w.tups,λb o e hZ=>by
   rw[e8 _ _ (λq=>by rw[q,fD] at e;exact f8 e)];exact w.new b o e hZ⟩
  exact fin acc Z' _ (hend _ _ Za).2 hZD' (I.keep stpD simD) stpD ⟨m',hC'.at' λo ho=>u C o (Ne.symm S) ho⟩ (by rw[e8 _ _ (Ne.symm hDC)];exact M)
theorem vG{js:List Nat}(ok:H0 F scope x js=true)(hq:F.q=true)(P:List V->Hp->Prop)
  (h:Itr g F iter J Z (λL K sv=>∃ Ja:List V->List V->Hp->Prop,L.length<=sizeLine/\Ja L [] sv/\
   (∀ v l acc Z',Ja (v::l) acc Z'->K Z'/\H9 g (B7 F scope x) ifs (some v::s6 J js) Z' (λb Z2=>(b=true->Ev g (B7 F scope x) elt (some v::s6 J js) Z2 (λy Z3=>Ja l (acc++[y]) Z3) noX)/\(b=false->Ja l acc Z2)))/\
   ∀ acc Z',Ja [] acc Z'->K Z'/\P acc Z') X)
  {A:Around} {env:Env} {s:Shared} {E:Value->Shared->Prop} {use:Option (Value->Sem Unit)} {QV:Value->Shared->Prop} (I:Inv g F A env J Z s) (hE:∀ e s',j6 g F A env J Z s X e s'->E e s')
  (fin:∀ D C acc Z' s',P acc Z'->Z' D=none->Inv g F A env J (upd Z' D (.L acc)) s'->Step (inF A) f5 Z (upd Z' D (.L acc)) s s'->(∃ m,s'.heap.Ns C m)->s.heap.get? C=none->upd Z' D (.L acc) C=none->
   compPost (model g.prog g.w) A E use QV (.ref D) C (.ok .next) s') :
  wpAny (model g.prog g.w) A (comprehension (.ListComp elt [⟨.Name x px,iter,ifs,0⟩] scope pos) scope env pos' (newList []) false (eval iter env) use) QV E s:=by
 k_extra"aD"
 have hh:=I.quiet hq;have hsome:=yI ok I;refine wpAny_comprehension_free (g:=⟨.Name x px,iter,ifs,0⟩) (gs:=[]) rfl (λv=>h.fold env v) (bi4 hsome) hkind (λy hy e=>(hloc y hy).resolve_left λq=>q e) (lY (h.run A env s I hh) (λxv sw M=>lY M (λit T Y=>Y _ ?_) λe s' p=>hE e s' p) λe s' p=>hE e s' p)
 clear Y;rintro It L K St sv rfl W hst hItf hZI Q S ⟨Ja,hLs,hJ,hturn,hend⟩;refine mj (wpAny_newFunctionEnv hcell (by intro y hy;simp at hy) (λM w u=>?_) hkind)
 dsimp only at w u ⊢
 generalize hH2:T.heap.push {cls:=.type "list",dict:=none,data:=.seq ([]:List Value).toArray}=H2 at w u ⊢;have Za:H2.objs.size=T.heap.objs.size+1:=by rw[<- hH2,km]
 generalize hDd:T.heap.objs.size=D at Za ⊢;generalize hCc:H2.objs.size=C at w u Za ⊢;have hDC:D≠C:=by lia
 have O:∀ b o,T.heap.get? b=some o->M.get? b=some o:=λb o e=>by
  exact u.extBut b o (bR (by rw[Za,<- hDd];exact jk (bC e))) (aD _ (hH2▸aD _ e))
 have fresh:∀ a,D<=a->T.heap.get? a=none:=λa ha=>by
  cases e:T.heap.get? a with
  | none=>rfl
  | some o'=>exact absurd (bC e) (dJ.mpr (by rw[hDd];exact ha))
 have hacc:M.PlainList D #[]:=⟨0,u.extBut _ _ hDC (aD _ (by rw[<- hH2,<- hDd];exact aO _ rfl))⟩
 have st3:Step (inF A) f5 sv sv T {T with heap:=M,toks:=T.toks+([]:List (Str×Value)).length}:=Step.grow O
 have f0:∀ a,D<=a->s.heap.get? a=none:=λa ha=>by
  cases e:s.heap.get? a with
  | none=>rfl
  | some o=>refine a7 (S.dom _ o e) λo' ho' N=>?_;rw[fresh a ha] at ho';exact f8 ho'
 have H:∀ a,D<=a->sv a=none:=λa ha=>by
  cases e:sv a with
  | none=>rfl
  | some o=>
   have:=(Q.sim.objs a o e).1;refine d4 this.has λob e'=>?_
   rw[fresh a ha] at e';exact f8 e'
 have R:=W.obj 0 _ hst;have hItD:It≠D:=λq=>by refine i6 R λo N e N=>?_;rw[q,fresh D (aV _)] at e;exact f8 e
 have hItC:It≠C:=λq=>by refine i6 R λo N e N=>?_;rw[q,fresh C (l_1 Za)] at e;exact f8 e
 have U:=W.frame _ _ _ hst (λo e=>O _ o e) (λb N N e=>O b _ e)
 have loop:=cl9 (elt:=elt) (iter:=iter) (px:=px) (pos:=pos) ok hLs hturn hend (QQ:=compPost (model g.prog g.w) A E use QV (.ref D) C) I W (Ne.symm hItD) hItC hDC hItf (f0 D (aV _)) (f0 C (l_1 Za)) rfl
  (λacc Z' s' p1 p2 p3 p4 p5 p6=>fin D C acc Z' s' p1 p2 p3 p4 p5 (f0 C (l_1 Za)) p6) (n₀:=L.length+1) (sx:={T with heap:=M,toks:=T.toks+([]:List (Str×Value)).length})
  (λN k_=>k_ 0 [] sv _ (by lia) (aY _) (aV _) (by simpa using hJ) (λN k_=>k_ (#[]) U hacc .nil hZI (H D (aV _))) w (H C (l_1 Za)) (Q.sim.grow O) (S.trans st3))
 exact codeAny_compStart_list loop (W.self 0 _ _ _ U loop)
theorem Fv(js:List Nat)(ok:H0 F scope x js=true)(T:F.q=true)
  (h:Itr g F iter J Z (λL K sv=>∃ Ja:List V->List V->Hp->Prop,L.length<=sizeLine/\Ja L [] sv/\
   (∀ v l acc Z',Ja (v::l) acc Z'->K Z'/\H9 g (B7 F scope x) ifs (some v::s6 J js) Z' (λb Z2=>(b=true->Ev g (B7 F scope x) elt (some v::s6 J js) Z2 (λy Z3=>Ja l (acc++[y]) Z3) noX)/\(b=false->Ja l acc Z2)))/\
   ∀ acc Z',Ja [] acc Z'->K Z'/\∀ a,Z' a=none->Q (.ref a) (upd Z' a (.L acc))) X) :
  Ev g F (.ListComp elt [⟨.Name x px,iter,ifs,0⟩] scope pos) J Z Q X:=(λA R s I=>by
 rw[eval_ListComp];refine vG ok T (λacc Z'=>∀ a,Z' a=none->Q (.ref a) (upd Z' a (.L acc))) h I (λN N p=>p) λD C acc Z' M S hD O E P q u=>d4 P λm H=>⟨m,H,λh' w=>?_⟩
 exact(λN U=>U (.ref D) _ (.ref D) (O.but (tk:=M.toks) w.extBut (K5 H w) u (I.notOwn q) (I.notBase q) (I.notFr q)) (E.but (tk:=M.toks) w.extBut q) (S D hD)))
theorem WD{elt:Expr}{q:List Comprehension}{scope:Scope}{P u:Pos}{y:Str}{line:Nat}{env:Env} :
  ∃ b,swapsWith (.ListComp elt q scope P) (some (.Name y u)) line env=pure b:=⟨_,rfl⟩
end
section
variable{g:G}{Q:V->Hp->Prop}
theorem Py{U:Pos}(hk:F.sc.names.lookup x=some .globalImplicit)(hg:g.mg x=none)(hb:g.mb x=some (.builtin "isinstance"))
  (D:F.sc.names.lookup t=some .globalImplicit) (C:g.mg t=none) (u:g.mb t=some (.type c))
  (h:Ev g F e J Z (λv q=>mQ g F (λy=>call (.builtin "isinstance") [y,.type c]) v J q Q X) X) (hd:(x==("__debug__" : Str))=false) (w:(t==("__debug__" : Str))=false)
  (he:∀ env,mF [e,.Name t tp] env=(false,eval e env)::mF [.Name t tp] env):Ev g F (.Call (.Name x U) [e,.Name t tp] [] pos) J Z Q X:=(λA env s I=>by
 refine lZ (I.nB hk hd hg hb ?_);k_extra"bq"
 refine cJ hp (s7 hp (wpAny_items_cons (pgo (h A env s I) (λv sw V q r I1 st1 hQ=>wpAny_items_cons (I1.nB D w C u (wpAny_items_nil ?_))) λN N p=>p) (he env)))
 exact lY (hQ A env sw v I1 r) (λN N p=>p.step st1) λN N p=>p.step st1)
theorem PJ{D:Expr}(h:Ev g F l J Z (λa O=>Ev g F D J O (λb S=>mK g F (compareOp H) a b J S (λc w=>Tru g F c J w (λt y=>
   (t=true->Ev g F u J y (λd P=>mK g F (compareOp Ja) b d J P Q X) X)/\(t=false->Q c y)) X) X) X) X) (hm:lastMarks [H,Ja] [D,u]=false) :
  Ev g F (.Compare l [H,Ja] [D,u] pos) J Z Q X:=(λA R s I=>by
 refine PyProof.Rows.Compare_chain (pgo (h A R s I) (λa sw Va O ra E C h1=>PyProof.Rows.chain_link (pgo (h1 A R sw E) (λb s₂ Vb S rb sy T h2=>?_) λN N p=>p.step C)) λN N p=>p) hm
 k_extra"an"
 have x:=(C.trans T).trans Za;refine C5 (h3 A R s₃ c I3 rc) (λt s4 y U q Y=>?_) λN N p=>p.step x
 have M:=x.trans q;cases t with
 | false=>exact(λN k_=>k_ Vc y (rc.mono q.tups) U M (Y.2 rfl))
 | true=>
  refine PyProof.Rows.chain_last (pgo ((Y.1 rfl) A R s4 U) (λd s₅ Vd P rd I₅ L h5=>?_) λN N p=>p.step M)
  have K:=M.trans L;exact lY (h5 A R s₅ b d I₅ (rb.mono ((Za.tups.trans q.tups).trans L.tups)) rd) (λN N p=>p.step K) λN N p=>p.step K)
theorem co8{D:Expr}{E:CmpOp}(h:Ev g F l J Z (λa L=>Ev g F D J L (λb S=>mK g F (compareOp E) a b J S (λc w=>Tru g F c J w (λt y=>
   (t=true->Ev g F u J y (λd O=>mK g F (compareOp H) b d J O (λe P=>Tru g F e J P QB X) X) X)/\(t=false->QB false y)) X) X) X) X) (hm:lastMarks [E,H] [D,u]=false) :
  Tst g F (.Compare l [E,H] [D,u] pos) J Z QB X:=(λA R s I=>by
 refine PyProof.Rows.isTrue_chain (pgo (h A R s I) (λa sw Va L ra I1 C h1=>PyProof.Rows.test_link (pgo (h1 A R sw I1) (λb s₂ Vb S rb sy T h2=>?_) λN N p=>p.step C)) λN N p=>p) hm
 k_extra"an"
 have st13:=(C.trans T).trans Za;refine C5 (h3 A R s₃ c I3 rc) (λt s4 y U q Y=>?_) λN N p=>p.step st13
 have M:=st13.trans q;cases t with
 | false=>exact(λN k_=>k_ y U M (Y.2 rfl))
 | true=>
  refine PyProof.Rows.test_last (pgo ((Y.1 rfl) A R s4 U) (λd s₅ Vd O rd I₅ Ja h5=>?_) λN N p=>p.step M)
  have K:=M.trans Ja;refine pgo (h5 A R s₅ b d I₅ (rb.mono ((Za.tups.trans q.tups).trans Ja.tups)) rd) (λe s₆ Ve P re I₆ x h6=>?_) λN N p=>p.step K
  exact lY (h6 A R s₆ e I₆ re) (λN N p=>(p.step x).step K) λN N p=>(p.step x).step K)
theorem Zj(c:(l.length:Int)<2 ^ 63)(h:Q (.int l.length) Z):Cl g F (.builtin "len") [.tup l] J Z Q X:=(λA R s q I r=>by
   k_extra"O"
   k_extra"a6"
   k_extra"bY"
   refine PyProof.Rows.len_tuple ⟨_,ht,rfl,_,rfl⟩ (by rw[e];exact c) ?_
   rw[e];exact A5 I h)
theorem Yc(hZ:Z a=some (.L l))(c:(l.length:Int)<2 ^ 63)(h:Q (.int l.length) Z):Cl g F (.builtin "len") [.ref a] J Z Q X:=(λA R s q I r=>by
   k_extra"O"
   k_extra"N"
   k_extra"bY"
   refine lE hp.isList (by rw[e];exact c) ?_
   rw[e];exact A5 I h)
theorem cw0(hZ:Z a=some (.L l))(hz:l.length<=sizeLine)(h:Q (.tup l) Z):Cl g F (.type "tuple") [.ref a] J Z Q X:=(λA R s u I r=>by
   k_extra"O"
   k_extra"N"
   k_extra"G"
   refine call_tuple_list hp.isList (λc K=>?_) (by rw[e];exact hz)
   have q:Step (inF A) f5 Z Z s {s with heap:=c}:=Step.grow (tk:=s.toks) K
   have p:=pK (Q:=Q) (I.keep q (I.sim.grow K)) (rl.mono q.tups) h;rw[iK] at p;exact p.step q)
theorem Ys(h:Q (.tup l) Z):Cl g F (.type "tuple") [.tup l] J Z Q X:=(λA R s c I r=>by
   k_extra"O"
   k_extra"a6"
   exact call_tuple_same ⟨_,ht,rfl,_,rfl⟩ (D1 I (.tup ht rl) h))
theorem Gl{A env s}{D:Addr}{tk:Nat}(I:Inv g F A env J Z s)(K:∀ b o,s.heap.get? b=some o->h'.get? b=some o)(hD:h'.get? D=some {cls:=.type "list",data:=.seq vs c})(w:s.heap.get? D=none)(r:d9 h' vs.toList l)
  (h:∀ a,Z a=none->Q (.ref a) (upd Z a (.L l))):l8 g F A env J Z s Q (.ref D) {s with heap:=h',toks:=tk}:=by
 have mO:Step (inF A) f5 Z Z s {s with heap:=h',toks:=tk}:=Step.grow K
 have u:Z D=none:=by
  cases q:Z D with
  | none=>rfl
  | some o=>
   have:=(I.sim.objs _ o q).1;refine d4 this.has λob e=>?_
   rw[w] at e;exact f8 e
 have y:Step (inF A) f5 Z (upd Z D (.L l)) s {s with heap:=h',toks:=tk}:=⟨mO.same,mO.dom,mO.keep,mO.tups,λb o e x=>by
  rw[e8 _ _ (λq=>by rw[q,w] at e;exact f8 e)];exact x⟩
 refine(λz_ C=>C _ _ (.ref _) (I.keep y ⟨(I.sim.grow K).stays,λa o e=>?_⟩) y (h _ u))
 by_cases ha:a=D
 ·subst ha
  rw[d6] at e;k_extra"bQ";exact⟨⟨vs,⟨c,hD⟩,r⟩,I.notBase w⟩
 ·rw[e8 _ _ ha] at e
  exact(I.sim.grow K).objs a o e
theorem WP(c:Z a=some (.L l))(hz:l.length<=sizeLine)(h:∀ b,Z b=none->Q (.ref b) (upd Z b (.L l))):Cl g F (.type "list") [.ref a] J Z Q X:=(λA R s w I r=>by
   k_extra"O"
   k_extra"br";obtain⟨us,⟨n,M⟩,rl⟩:=(I.sim.objs a _ c).1;k_extra"G"
   refine call_list_seq a (.inl rfl) M rfl rfl (λu T hk hD=>?_) (by rw[e];exact hz)
   exact Gl (tk:=s.toks) I hk hD (u7 _) (rl.mono λb N N q=>hk b _ q) h)
theorem RZ(hz:l.length<=sizeLine)(h:∀ b,Z b=none->Q (.ref b) (upd Z b (.L l))):Cl g F (.type "list") [.tup l] J Z Q X:=(λA R s u I r=>by
   k_extra"O"
   k_extra"a6"
   have e:∀ (us:Array Value),d9 s.heap us.toList l->us.size=l.length:=λus r=>by rw[<- r.length,aJ]
   refine call_list_seq _ (.inr rfl) ht rfl rfl (λc T hk hD=>?_) (by rw[e _ rl];exact hz)
   exact Gl (tk:=s.toks) I hk hD (u7 _) (rl.mono λb N N q=>hk b _ q) h)
theorem ci7(hz:l.length+k.length<=sizeLine)(h:Q (.tup (l++k)) Z):mK g F (binaryOp .Add) (.tup l) (.tup k) J Z Q X:=(λA c s x y I O q=>by
  refine j8 O.ofTup λa vs n Ja R rl=>?_;subst Ja
  refine j8 q.ofTup λb us m Ja L rk=>?_;subst Ja
  k_extra"cZ"
  k_extra"c0"
  by_cases S:vs.isEmpty=true
  ·refine concat_meets ⟨_,R,rfl⟩ ⟨_,L,rfl⟩ noFill_tuple_add seq_tuple_add PySem.F.slot_tuple_add PySem.F.entry_tuple_add (PySem.F.args_tuple_add_2 _ _) (PyProof.Rows.tuple_addW0 _ _ vs us n m none none #[] #[] S) ⟨R,L,?_⟩
   have:l=[]:=by
    have:vs.size=0:=by simpa using S
    rw[e1] at this;exact cY.mp this
   subst this;exact D1 I (.tup L rk) h
  ·by_cases Za:us.isEmpty=true
   ·refine concat_meets ⟨_,R,rfl⟩ ⟨_,L,rfl⟩ noFill_tuple_add seq_tuple_add PySem.F.slot_tuple_add PySem.F.entry_tuple_add (PySem.F.args_tuple_add_2 _ _) (PyProof.Rows.tuple_addW1 _ _ vs us n m none none #[] #[] S Za) ⟨R,L,?_⟩
    have:k=[]:=by
     have:us.size=0:=by simpa using Za
     rw[e2] at this;exact cY.mp this
    subst this;rw[bI] at h;exact D1 I (.tup R rl) h
   ·refine concat_meets ⟨_,R,rfl⟩ ⟨_,L,rfl⟩ noFill_tuple_add seq_tuple_add PySem.F.slot_tuple_add PySem.F.entry_tuple_add (PySem.F.args_tuple_add_2 _ _) (PyProof.Rows.tuple_addW2 _ _ vs us n m none none #[] #[] S Za (l_6 hz e1 e2)) ⟨R,L,?_⟩
    have p:=pK (Q:=Q) (vs:=vs.toList++us.toList) I (rl.append rk) h;k_extra"cC"
    rw[e] at p;exact p)
theorem bp5(M:Z a=some (.L l))(Y:Z b=some (.L k))(hz:l.length+k.length<=sizeLine)(h:∀ c,Z c=none->Q (.ref c) (upd Z c (.L (l++k)))):mK g F (binaryOp .Add) (.ref a) (.ref b) J Z Q X:=(λA R s x y I rx ry=>by
 k_extra"cF";obtain rfl:=ry.ofRef;obtain⟨vs,⟨n,q⟩,rl⟩:=(I.sim.objs a _ M).1;obtain⟨us,⟨m,L⟩,rk⟩:=(I.sim.objs b _ Y).1;k_extra"cZ"
 k_extra"c0"
 refine P.add_list q L ?_ (l_6 hz e1 e2);have p:=tX (Q:=Q) (vs:=vs.toList++us.toList) I (rl.append rk) h;k_extra"cC"
 rw[e] at p;exact p)
end
noncomputable def slc{c:Type}(y q:Option Int)(l:List c):List c:=(l.drop (y.elim 0 (clipAt l.length))).take (q.elim l.length (clipAt l.length)-y.elim 0 (clipAt l.length))
theorem d9.drop(n:Nat)(r:d9 h vs l):d9 h (vs.drop n) (l.drop n):=by
 induction n generalizing vs l with
 | zero=>exact r
 | succ n c=>
  cases l with
  | nil=>rw[r.ofNil];exact .nil
  | cons x l=>refine g8 r.ofCons λv M Ja N r2=>?_;subst Ja;exact c r2
theorem d9.take(n:Nat)(r:d9 h vs l):d9 h (vs.take n) (l.take n):=by
 induction n generalizing vs l with
 | zero=>exact .nil
 | succ n c=>
  cases l with
  | nil=>rw[r.ofNil];exact .nil
  | cons x l=>refine g8 r.ofCons λv M Ja r1 r2=>?_;subst Ja;exact .cons r1 (c r2)
theorem d9.slc(y c:Option Int)(r:d9 h vs l):d9 h (slc y c vs) (slc y c l):=by
 unfold Internal.slc;rw[r.length];exact(r.drop _).take _
inductive OptInt:V->Option Int->Prop
 | none:OptInt .none none
 | int (i:Int):OptInt (.int i) (some i)
theorem OptInt.part(o:OptInt v k)(r:Rep h x v):IsPart x k:=by
 cases o with
 | none=>rw[r.ofNone];exact .none
 | int i=>refine d4 r.ofInt λt Ja=>?_;subst Ja;exact .int _ _
section
variable{w:World}
theorem vD(p:IsPart x k)(h:Q k s):wpAny (model prog w) A (Builtin.Slice.slicePartIndex x) Q E s:=by
 cases p with
 | none=>exact jb h
 | int i t=>exact PyProof.Rows.slicePart_int h
theorem YX(lo hi:Option Int)(n:Nat):Builtin.Slice.sliceAdjust lo hi 1 (n:Int)=(((lo.elim 0 (clipAt n):Nat):Int),((hi.elim n (clipAt n):Nat):Int)):=by
 have key:∀ v:Int,(if v<0 then max (v+n) 0 else min v n)=((clipAt n v:Nat):Int):=λv=>by
  rw[clipAt_cast];by_cases h:v<0
  ·rw[if_pos h,if_pos h,Int.max_comm,jL (by lia)]
  ·rw[if_neg h,if_neg h,gZ (Int.le_min.mpr ⟨jl.mp h,bB n⟩)]
 unfold Builtin.Slice.sliceAdjust;have h1:¬ ((1:Int)<0):=by decide
 simp only[h1,if_false]
 cases lo<;>cases hi<;>simp only[jT,key]<;>rfl
theorem bc0(i j:Nat):Builtin.Slice.slicePlaces (i:Int) (j:Int) 1=j-i:=by
 unfold Builtin.Slice.slicePlaces;have Za:(1:Int) > 0:=by decide
 simp only[Za,if_true,Int.ediv_one]
 split
 ·rw[Int.sub_add_cancel];exact Int.toNat_sub j i
 ·exact(kI (bj.mp (jl.mp (by assumption)))).symm
theorem Ko{y D:Option Int}{F:Value}{n:Nat}{Q:Int×Int×Nat->Shared->Prop}(Ja:s.heap.IsSliceOf H c F .none)(K:IsPart c y)(q:IsPart F D)
  (h:Q (((y.elim 0 (clipAt n):Nat):Int),1,(D.elim n (clipAt n))-(y.elim 0 (clipAt n))) s):wpAny (model prog w) A (Builtin.Slice.sliceApplied (.ref H) (pure (n:Int))) Q E s:=by
 refine f6 (id Ja) λL u I C=>?_
 unfold Builtin.Slice.sliceApplied Builtin.Slice.sliceFields;refine lW (lW (wpAny_field u C (x:=c) rfl (lW (wpAny_field u C (x:=F) rfl (lW (wpAny_field u C (x:=.none) rfl (lX (lW (jb ?_)))))))));show wpAny _ _ (if ((1:Int)==0)=true then _ else _) _ _ s
 rw[if_neg (by decide)]
 refine lW (vD K (lW (vD q (lW (lX ?_)))));show wpAny _ _ (match Builtin.Slice.sliceAdjust y D 1 (n:Int) with | (y,D)=>pure (y,(1:Int),Builtin.Slice.slicePlaces y D 1)) _ _ s
 rw[YX];show wpAny _ _ (pure (((y.elim 0 (clipAt n):Nat):Int),(1:Int),Builtin.Slice.slicePlaces ((y.elim 0 (clipAt n):Nat):Int) ((D.elim n (clipAt n):Nat):Int) 1)) _ _ s;rw[bc0];exact lX h
theorem J0(xs:Array Value)(i k:Nat):((bh k).filterMap fun(j:Nat)=>xs[((i:Int)+(j:Int)*1).toNat]?).toArray=((xs.toList.drop i).take k).toArray:=by
 have e:(fun(j:Nat)=>xs[((i:Int)+(j:Int)*1).toNat]?)=λj=>xs[i+j]?:=by
  funext j
  have:((i:Int)+(j:Int)*1).toNat=i+j:=by rw[Int.mul_one];rfl
  rw[this]
 rw[e];have:=pick_run xs i k;rw[List.filterMap_map] at this;have C:((λx=>xs[x]?)∘λx=>i+x)=λk=>xs[i+k]?:=rfl
 rw[C] at this;rw[this]
theorem Rj(R:PyProof.Rows.IsTup s.heap t items)(P:s.heap.IsSliceOf M c S .none)(Za:IsPart c y)(pu:IsPart S x)
  (Y:slc y x items.toList=items.toList->Q (.ref t) s)
  (h:Q (.ref s.heap.objs.size) {s with heap:=s.heap.push {cls:=.type "tuple",data:=.seq (slc y x items.toList).toArray}})
  (hsz:items.size<=sizeLine):wpAny (model prog w) A (getItem (.ref t) (.ref M)) Q E s:=by
 have D:items.toList.length=items.size:=aJ;have q:sizeOk (.seq (slc y x items.toList).toArray):=by
  show(slc y x items.toList).toArray.size<=sizeLine;rw[cZ];exact aj (lg _ _) (aj (by rw[ie];exact Nat.sub_le _ _) (D▸hsz))
 refine f6 (id P) λX u I T=>?_
 have H:s.TypeIs (.ref M) "slice":=⟨X,u,I⟩;unfold getItem
 try with_reducible refine my ?_
 first | refine lW (lX ?_) | skip
 refine lW (wpAny_sequenceKey R.typeIs (by decide) ?_)
 refine lW (wpAny_callSpecial?_slot (name:=aa "__getitem__") R.typeIs iB
  (wpAny_call_entry iB R.typeIs PyProof.Rows.entry_tuple_getitem ?_ (PyProof.Rows.args_tuple_getitem _ _)))
 show wpAny _ _ (Builtin.Tuple.tupleItemsOf (.ref t) >>= _) _ _ s;refine lW (PyProof.Rows.tupleItemsOf_ R (lW (wpAny_typeOf H ?_)));rw[if_pos (by decide)]
 refine lW (Ko P Za pu ?_);generalize Ja:y.elim 0 (clipAt items.size)=i at *;generalize K:x.elim items.size (clipAt items.size)=j at *;have C:slc y x items.toList=(items.toList.drop i).take (j-i):=by
  unfold slc;rw[D,Ja,K]
 by_cases O:((i:Int)==0&&(1:Int)==1&&(j-i)==items.size)=true
 ·k_extra"a0"
  rw[if_pos O];have F:i=0:=by simp at O;lia
  have L:j-i=items.size:=by simp at O;lia
  have U:slc y x items.toList=items.toList:=by
   rw[C,F,List.drop_zero,F] at *;rw[L,<- D,gj]
  refine lW (m:=Builtin.Tuple.tupleIsExact _) ?_;unfold Builtin.Tuple.tupleIsExact;refine lW (wpAny_typeOf R.typeIs (lX ?_));rw[if_pos (by decide)]
  exact lW (wpAny_rule (lW (lX (lX ⟨_,rfl,lX (Y U)⟩))))
 ·k_extra"a0"
  rw[if_neg O,J0 items i (j-i)];rw[C] at h q;first
   | exact lW (m:=Builtin.Tuple.tupleExact _) (mj (lX ⟨_,rfl,lX h⟩) q)
   | exact lW (m:=Builtin.Tuple.tupleExact _) (mj (lW (lX (lX ⟨_,rfl,lX h⟩))) q)
   | exact lW (lW (m:=Builtin.Tuple.tupleExact _) (mj (lX (lX ⟨_,rfl,lX h⟩)) q))
   | exact lW (lW (m:=Builtin.Tuple.tupleExact _) (mj (lX ⟨_,rfl,lX h⟩) q))
end
def EvO(g:G)(F:Blk)(e:Option Expr)(J:List (Option V))(Z:Hp)(Q:V->Hp->Prop)(X:Str->Hp->Prop):Prop:=
 ∀ A R s,Inv g F A R J Z s->wpAny (model g.prog g.w) A (evalPart e R) (l8 g F A R J Z s Q) (j6 g F A R J Z s X) s
def Slc(g:G)(F:Blk)(a:V)(y w:Option Int)(J:List (Option V))(Z:Hp)(Q:V->Hp->Prop)(X:Str->Hp->Prop):Prop:=
 ∀ A R s x q c u,Inv g F A R J Z s->Rep s.heap x a->s.heap.IsSliceOf q c u .none->IsPart c y->IsPart u w->∃ T id,s.TypeIs x T/\typeLookup (.type T) "__getitem__" = pure (some (.builtin id))/\
  wpAny (model g.prog g.w) A (getItem x (.ref q)) (l8 g F A R J Z s Q) (j6 g F A R J Z s X) s
section
variable{g:G}{Q:V->Hp->Prop}
theorem JW(h:Q .none Z):EvO g F none J Z Q X:=(λA R s I=>wpAny_evalPart_none (D1 I .none h))
theorem Wc(h:Ev g F e J Z Q X):EvO g F (some e) J Z Q X:=(λA R s I=>wpAny_evalPart_some (h A R s I))
theorem Ux(h:Ev g F q J Z (λa C=>EvO g F lo J C (λl D=>EvO g F hi J D (λu M=>∃ kl ku,OptInt l kl/\OptInt u ku/\Slc g F a kl ku J M Q X) X) X) X) :
  Ev g F (.Subscript q (.Slice lo hi none p) pos) J Z Q X:=(λA R s I=>by
 refine PyProof.Rows.Subscript_ (pgo (h A R s I) (λa O Va C ra Za E L=>wpAny_Slice (pgo (L A R O Za) (λl U Vl D rl y S K=>?_) λN N p=>p.step E)) λN N p=>p)
 have H:=E.trans S;refine pgo (K A R U y) (λu Y Vu M ru w c hpq=>g8 hpq λkl ku ol ou P=>?_) λN N p=>p.step H
 refine wpAny_evalPart_none ?_;have Ja:Step (inF A) f5 M M Y {Y with heap:=Y.heap.push {cls:=.type "slice",data:=.fields #[l,u,.none]}}:=Step.push
 refine g8 (P A R _ a Y.heap.objs.size l u (w.keep Ja w.sim.push) (ra.mono ((S.tups.trans c.tups).trans Ja.tups)) (Heap.IsSliceOf.new ..) (ol.part (rl.mono c.tups)) (ou.part ru)) λT id hT hl hw=>?_
 have x:=(H.trans c).trans Ja;exact kj hT hl (lY hw (λN N p=>p.step x) λN N p=>p.step x) rfl)
theorem Jz(hz:l.length<=sizeLine)(h:Q (.tup (slc y u l)) Z):Slc g F (.tup l) y u J Z Q X:=(λA R s x D c E I r w C q=>by
  k_extra"c1"
  k_extra"G"
  refine⟨"tuple",_,⟨_,ht,rfl⟩,PySem.F.slot_tuple_getitem.lookup,Rj ⟨_,ht,rfl,_,rfl⟩ w C q (λO=>?_) (pK I (rl.slc y u) h) (l_7 hz e)⟩
  have r2:=rl.slc y u;rw[O] at r2;exact D1 I (.tup ht r2) h)
theorem Qo(hZ:Z a=some (.L l))(hz:l.length<=sizeLine)(h:∀ b,Z b=none->Q (.ref b) (upd Z b (.L (slc y u l)))):Slc g F (.ref a) y u J Z Q X:=(λA R s x E c H I r w D q=>by
 k_extra"bu";refine a7 ((I.sim.objs a _ hZ).1) λus hp rl=>?_
 k_extra"G"
 refine⟨"list",_,hp.isList.typeIs,slot_list_getitem.lookup,wpAny_getItem_list_slice hp.isList w D q .none (by simp) ?_ (l_7 hz e)⟩
 have C:slicePick us y u none=(slc y u us.toList).toArray:=by
  rw[slicePick_plain];unfold slc;rw[aJ]
 rw[C];exact(tX (Q:=Q) I (rl.slc y u) h))
theorem X0{A env s}(I:Inv g F A env J Z s)(C:Z a=some o)(r:u5 g h' a o')(Ja:Heap.SameBut a s.heap h')(O:l7 s.heap h')(K:∀ M,s.heap.get? a=some M->IsD M->∃ E,h'.get? a=some E/\IsD E) :
  Inv g F A env J (upd Z a o') {s with heap:=h',toks:=tk}/\Step fr own Z (upd Z a o') s {s with heap:=h',toks:=tk}:=by
 have ne:∀ b,Z b=none->b≠a:=λb Y q=>by rw[q,C] at Y;exact C9 Y
 have y:=(I.sim.objs a _ C).2;refine d4 r.has λE Za=>?_
 have D:∀ x w:Addr->Prop,Step x w Z (upd Z a o') s {s with heap:=h',toks:=tk}:=λx w=>⟨⟨rfl,rfl⟩,λb o e=>by
   by_cases q:b=a
   ·clear C;subst q
    refine⟨E,Za,λd=>a7 (K o e d) λR H L=>?_⟩
    rw[Za] at H;replace H:=d7 H;clear K;clear Za;subst H;exact L
   ·exact⟨o,(Ja.2 b q).trans e,id⟩,λb o e u N=>⟨o,(Ja.2 b (ne b u)).trans e,.inl rfl⟩,O,λb o e u=>by rw[e8 _ _ (ne b u)];exact u⟩
 refine⟨I.keep (D _ f5) ⟨λb o e=>(Ja.2 b (λq=>by rw[q,y] at e;exact f8 e)).trans (I.sim.stays b o e),λb o e=>?_⟩,D fr own⟩
 by_cases q:b=a
 ·clear ne;clear D;subst q
  rw[d6] at e;exact d7 e▸⟨r,y⟩
 ·rw[e8 _ _ q] at e
  exact⟨(I.sim.objs b o e).1.keep O λM c=>(Ja.2 b q).trans c,(I.sim.objs b o e).2⟩
theorem nW(c:Heap.SameBut a h h')(hl:h.PlainList a vs):l7 h h':=λb u n e=>by
 exact d4 hl λm P=>(c.2 b (λq=>by rw[q,P] at e;simp at e)).trans e
theorem sV{A env s}(I:Inv g F A env J Z s)(C:∃ o,Z a=some o)(y:h'.PlainList a M)(rl:d9 h' M.toList l)(w:Heap.SameBut a s.heap h')(c:∃ vs,s.heap.PlainList a vs) :
  Inv g F A env J (upd Z a (.L l)) {s with heap:=h',toks:=tk}/\Step fr own Z (upd Z a (.L l)) s {s with heap:=h',toks:=tk}:=by
 refine d4 C λY u=>d4 c λvs q=>?_
 exact X0 I u ⟨M,y,rl⟩ w (nW w q) λE e d=>by
  refine d4 q λn x=>k9 d λD ep d=>?_
  rw[x] at e;k_extra"bQ";cases d
theorem d9.set(i:Nat)(r:d9 h vs l)(q:Rep h v x):d9 h (vs.set i v) (l.set i x):=by
 induction l generalizing vs i with
 | nil=>rw[r.ofNil];exact .nil
 | cons y l ih=>
  k_extra"da"
  cases i with
  | zero=>exact .cons q r2
  | succ i=>exact .cons r1 (ih i r2)
theorem bU5(P:s.heap.get? l=some {cls:=.type "list",data:=.seq items n})
  (Y:0<=k) (c:k<2 ^ 63) (y:k<items.size) (u:q () {s with heap:=s.heap.update l (bW (·.setIfInBounds k.toNat v))}) :
  wpAny (model prog w) A (setItem (.ref l) (.int k t) v) q E s:=by
 have hl:s.heap.IsList l items:=⟨_,P,rfl,n,rfl⟩;unfold setItem
 try with_reducible refine my ?_
 first | refine lW (lX ?_) | skip
 refine lW (wpAny_sequenceKey hl.typeIs (by decide) ?_)
 refine lW (wpAny_callSpecial?_slot (name:=aa "__setitem__") hl.typeIs slot_list_setitem
  (wpAny_call_entry slot_list_setitem hl.typeIs entry_list_setitem ?_ (args_list_setitem _ _ _)))
 show wpAny _ _ (Builtin.List.listSubscript? (.int k t) >>= _) _ _ s;refine lW (wpAny_listSubscript_int (fitsIndex_of Y c) ?_);clear c;refine d4 (bM Y) λj Ja=>?_;subst Ja
 have x:j<items.size:=aQ.mp y;have L:=cj x;show wpAny _ _ ((seqItemAt l j >>= λr=>pure (r.map (j,·))) >>= _) _ _ s
 refine lW (lW (wpAny_seqItemAt P rfl (lX ?_)));rw[L];show wpAny _ _ (setSeqItemAt l j v >>= _) _ _ s;refine lW (wpAny_setSeqItemAt P rfl ?_);first
  | exact lW (lX (lX ⟨.none,rfl,lX u⟩))
  | exact lX ⟨.none,rfl,lX u⟩
def StI(g:G)(F:Blk)(a k v:V)(J:List (Option V))(Z:Hp)(K:Hp->Prop):Prop:=
 ∀ A R s x y z (E:Value->Shared->Prop),Inv g F A R J Z s->Rep s.heap x a->Rep s.heap y k->Rep s.heap z v->wpAny (model g.prog g.w) A (setItem x y z) (λz_ c=>∃ u,Inv g F A R J u c/\Step (inF A) (ownOf R) Z u s c/\K u) E s
theorem Ox{U:n5}(h:Ev g F H J Z (λv C=>Ev g F o J C (λa Ja=>Ev g F i J Ja (λk M=>StI g F a k v J M (λZ=>QS .next J Z)) (λx C=>U x J C)) (λx C=>U x J C)) (λx C=>U x J C))
  (hs:∀ env,swapsWith H (some (.Subscript o i p')) pos.line env=pure false):Ex g F (.Assign [.Subscript o i p'] H pos) J Z QS U:=(λA env s I=>by
 refine wpAny_Assign_Subscript (pgo (h A env s I) (λv O Vv C rv Za E L=>pgo (L A env O Za) (λa T Va Ja ra y S P=>?_) λN N p=>(p.step E).toS) λN N p=>p.toS) (hs env)
 have K:=E.trans S;refine pgo (P A env T y) (λk Y Vk M rk w D R=>lY (R A env Y a k v _ w (ra.mono D.tups) rk (rv.mono (S.tups.trans D.tups))) (λN s' p=>?_) λN N p=>p) λN N p=>(p.step K).toS
 refine f6 p λu I' c q=>?_
 exact(λN k_=>k_ .next J u .next I' (((K.trans D).mono λN h=>h.elim).trans c) q))
theorem cr1{l:List V}{n:Int}(C:Z b=some (.L l))(Y:0<=n)(L:n<l.length)(T:(l.length:Int)<2 ^ 63)(S:K (upd Z b (.L (l.set n.toNat v)))):StI g F (.ref b) (.int n) v J Z K:=(λA R s x y z E I rx ry U=>by
 k_extra"cF";k_extra"ac"
 refine a7 ((I.sim.objs b _ C).1) λus H rl=>?_
 k_extra"G"
 refine d4 (id H) λc O=>bU5 O Y (cL L T) (by rw[e];exact L) ?_
 have u:Heap.SameBut b s.heap (s.heap.update b (bW (·.setIfInBounds n.toNat z))):=Heap.SameBut.update ..
 generalize D:s.heap.update b (bW (·.setIfInBounds n.toNat z))=P at u ⊢
 have Ja:P.PlainList b (us.setIfInBounds n.toNat z):=⟨_,by rw[<- D];exact dG _ O rfl⟩
 have M:=nW u H;obtain⟨q,w⟩:=sV (own:=ownOf R) (tk:=s.toks) (l:=l.set n.toNat v) I ⟨_,C⟩ Ja (by rw[Array.toList_setIfInBounds];exact(rl.mono M).set _ (U.mono M)) u ⟨us,H⟩
 exact⟨_,q,w,S⟩)
theorem Cu{name:Str}{args:List Expr}{id:String}(slot:Slot "list" name id)(K:typeOf (.builtin id)=pure (.type "method_descriptor"))
  (h:Ev g F o J Z (λv u=>∃ a l,v=.ref a/\u a=some (.L l)/\Evs g F args J u (λvs w=>Cl g F (.builtin id) (.ref a::vs) J w Q X) X) X)
  (hline:(apos.endLine==pos.line)=true) (hbase:∀ env,attributeBase o name env (eval o env)=eval o env)
  (hfew:∀ env,((backTo pos (mF args env)).all (λx=>!x.1)&&(backToKw pos (keywordEach [] env)).all (λx=>x.1.isSome)
   && decide (args.length+([]:List Keyword).length+(if ([]:List Keyword).isEmpty then 0 else 1)<30))=true) :
  Ev g F (.Call (.Attribute o name apos) args [] pos) J Z Q X:=(λA env s I=>by
 refine wpAny_Call_method (hbase env) (hfew env) hline PySem.F.plainAttrs_list slot K (pgo (h A env s I) (λY O V u r Za E Ja=>g8 Ja λa l P C L=>?_) λN N p=>p)
 clear Ja;rw[P] at r;k_extra"bu";obtain⟨us,⟨n,M⟩,rl⟩:=(Za.sim.objs a _ C).1;refine⟨⟨_,M,rfl⟩,λb e=>by cases e;exact⟨_,M,rfl⟩,d5 (L A env O pos Za) λc H=>cJ H (s7 H (N9 c (λvs T U w R y S q=>?_) λN N p=>p.step E))⟩
 have D:=E.trans S;exact lY (q A env T (.ref a::vs) y (.cons (.ref a) R)) (λN N p=>p.step D) λN N p=>p.step D)
theorem Ju(hZ:Z a=some (.L l))(hz:l.length<=sizeLine)(h:Q .none (upd Z a (.L (l++[v])))):Cl g F (.builtin "list.append") [.ref a,v] J Z Q X:=(λA R s D I r=>by
  k_extra"dl"
  k_extra"N"
  k_extra"G"
  refine d4 (id hp) λc O=>wpAny_list_append_plain (hsz:=by exact l_7 hz e) hp λC Za w=>?_
  have x:=nW w hp;obtain⟨q,u⟩:=sV (own:=f5) (tk:=s.toks) (l:=l++[v]) I ⟨_,hZ⟩ Za (by rw[gK];exact(rl.mono x).append (.cons (r'.mono x) .nil)) w ⟨us,hp⟩
  exact(λz_ y=>y .none _ .none q u h))
theorem bD5(h:Ev g F e J Z (λN c=>u .next J c) (λx c=>w x J c))(y:∀ env,swapsWith e none pos.line env=pure false):Ex g F (.Expr e pos) J Z u w:=(λA env s I=>
 wpAny_Expr_any (pgo (h A env s I) (λv O V c r Za E q=>(λN C=>C .next J c .next Za (E.mono λN h=>h.elim) q)) λN N p=>p.toS)
  (by unfold interactive;rw[I.fn];rfl) (y env))
theorem d9.bools{bs:List Bool}(r:d9 h vs (bs.map .bool)):vs=bs.map .bool:=by
 induction bs generalizing vs with
 | nil=>exact r.ofNil
 | cons b bs c=>refine g8 r.ofCons λv M Ja r1 r2=>?_;subst Ja;rw[r1.ofBool,c r2];rfl
theorem Ob{bs:List Bool}(O:F.q=true)(hZ:Z a=some (.L (bs.map .bool)))(h:Q (.bool (bs.all id)) Z):Cl g F (.builtin "all") [.ref a] J Z Q X:=(λA R s Za I r=>by
  k_extra"db"
  k_extra"N"
  have H:=rl.bools;have E:us.size=bs.length:=by rw[<- aJ,H,aq]
  k_extra"c2";refine call_all_walk (wpAny_pyIter_list hp.isList ?_);k_extra"aW"
  refine⟨_,_,_,_,_,_,λi=>bs.getD i true,rfl,Walks.list (A:=A.in1) (I.quiet O) s.heap.objs.size a hne us,⟨⟨_,aO _ rfl,rfl,rfl⟩,hp.isList.push _⟩,λi v U M T y w=>?_,λL S K=>?_⟩
  ·dsimp only at y w
   have:us.toList[i]?=some v:=by rw[aU];exact y
   rw[H,aB] at this;refine a7 (aR.mp this) λb Y qa=>?_;clear r0;clear y;subst qa
   refine wpAny_truthy_bool ?_;have e:bs.getD i true=b:=by rw[aP,Y];rfl
   rw[e] at w;exact w
  ·have x:∀ b o,s.heap.get? b=some o->L.get? b=some o:=λb o e=>K b o (λq=>by simp at q;rw[q,hfr] at e;exact f8 e) (aD _ e)
   have e:(bh us.size).all (λi=>bs.getD i true)=bs.all id:=by
    rw[E,jM,bc,bc];constructor
    ·intro u b Y
     obtain⟨i,Ja,rfl⟩:=fu Y;have:=u i (bY.mpr Ja);rw[aP,ak Ja] at this;exact this
    ·intro u i Ja
     have C:=bY.mp Ja;rw[aP,ak C];exact u _ (cT C)
   rw[e];have D:Step (inF A) f5 Z Z s {s with heap:=L,toks:=S}:=Step.grow x
   exact(λz_ P=>P (.bool _) Z (.bool _) (I.keep D (I.sim.grow x)) D h))
end
def Scr(g:G)(a:Addr)(E:List Int):Prop:=∃ c:Array Value,g.h₀.IsList a c/\∀ h,d9 h c.toList (E.map .int)
section
variable{g:G}{Q:V->Hp->Prop}
theorem QK{E:List Int}(u:Scr g a E)(c:(E.length:Int)<2 ^ 63)(h:Q (.int E.length) Z):Cl g F (.builtin "len") [.ref a] J Z Q X:=(λA R s w I r=>by
   refine a7 u λus hl rl=>a7 r.one λz_ Ja r0=>?_
   subst Ja;k_extra"br";k_extra"aV"
   have e:((us.size:Nat):Int)=(E.length:Int):=by have:=(rl s.heap).length;rw[aJ,aq] at this;lia
   refine lE hl' (by rw[e];exact c) ?_
   rw[e];exact A5 I h)
theorem vL{E:List Int}(C:Scr g a E)(Y:0<=k)(u:k<2 ^ 63)(U:E[k.toNat]?=some x)(h:Q (.int x) Z):Itm g F (.ref a) (.int k) J Z Q X:=(λA R s v y I rx ry=>by
 refine a7 C λus hl rl=>?_
 k_extra"cF";k_extra"ac"
 k_extra"aV"
 obtain⟨w,c,D⟩:=(rl s.heap).get (i:=k.toNat) (x:=.int x) (by rw[aB,U];rfl)
 exact⟨"list",_,hl'.typeIs,slot_list_getitem.lookup,wpAny_getItem_list hl' Y u (x:=w) (by rw[<- aU];exact c) (D1 I D h)⟩)
structure AsgL(g:G)(F:Blk)(es:List Expr)(l:List V)(J:List (Option V))(Z:Hp)(Q:List (Option V)->Prop):Prop where
 run:∀ A env s xs (QU:Unit->Shared->Prop) (E:Value->Shared->Prop),Inv g F A env J Z s->d9 s.heap xs l->
  (∀ s' J',Inv g F A env J' Z s'->Step (inF A) (ownOf env) Z Z s s'->Q J'->QU () s')->wpAny (model g.prog g.w) A (assignInOrder ((assignEach es env).map (·.2)) xs) QU E s
 len:∀ env,(assignEach es env).length=l.length
 star:∀ env,(assignEach es env).findIdx? (·.1)=none
theorem XD(h:P J):AsgL g F [] [] J Z P:=⟨λA R s q c E I r k=>lX (k s J I Step.refl h),λz_=>rfl,λz_=>rfl⟩
theorem bU0(U:F.vars[i]?=some x)(c:J[i]?=some w)(h:AsgL g F M l (J.set i (some v)) Z P):AsgL g F (.Name x p::M) (v::l) J Z P:=
 ⟨λA R s Y L E I r k=>by
   refine g8 r.ofCons λN N Ja u S=>?_;subst Ja
   show wpAny _ A (do holding _ (assign (.Name x p) R _);assignInOrder ((assignEach M R).map (·.2)) _) L E s
   refine lW (my (wpAny_assign_Name (mV I U c u λT O D=>?_)))
   exact h.run A R T _ L E O (S.mono D.tups) λK q H C y=>k K q H (D.trans C) y,λR=>by
  show((false,assign (.Name x p) R)::assignEach M R).length=_;rw[bD,h.len R,bD],λR=>by
  show((false,assign (.Name x p) R)::assignEach M R).findIdx? _=none;rw[List.findIdx?_cons,h.star R];rfl⟩
theorem uf(h:AsgL g F M l J Z P):Asg g F (.Tuple M k p) (.tup l) J Z P:=
 ⟨λA R s x Ja E I L r T=>by
   k_extra"c1"
   k_extra"G"
   refine wpAny_assign_Tuple L ⟨_,ht,rfl,_,rfl⟩ (by rw[h.len R,e]) (h.star R) λH U=>?_
   have D:∀ c,Step (inF A) c Z Z s {s with heap:=H}:=λc=>Step.grow (tk:=s.toks) λb o e=>U b o (bR (bC e)) e
   have K:∀ b o,s.heap.get? b=some o->H.get? b=some o:=λb o e=>U b o (bR (bC e)) e
   refine h.run A R _ _ Ja E (I.keep (D f5) (I.sim.grow K)) (rl.mono (D f5).tups) λC q w u y=>T C q w ((D _).trans u) y,.inr ⟨M,k,p,rfl⟩⟩
end
section
variable{g:G}{vs:List Str}{d:Nat}{q:Bool}{Q:V->Hp->Prop}
def Bi(g:G)(x:Str)(v:Value):Prop:=g.mg x=none/\g.mb x=some v
theorem u_b{U:Pos}{args:List Expr}{id:String}(Y:Bi g x (.builtin id))(K:sc.names.lookup x=some .globalImplicit)
  (h:Evs g ⟨sc,vs,d,q⟩ args J Z (λM c=>Cl g ⟨sc,vs,d,q⟩ (.builtin id) M J c Q X) X) (u:(x==("__debug__" : Str))=false):Ev g ⟨sc,vs,d,q⟩ (.Call (.Name x U) args [] pos) J Z Q X:=Km K Y.1 Y.2 h u
theorem u_t{U:Pos}{args:List Expr}{id:String}(Y:Bi g x (.type id))(K:sc.names.lookup x=some .globalImplicit)
  (h:Evs g ⟨sc,vs,d,q⟩ args J Z (λM c=>Cl g ⟨sc,vs,d,q⟩ (.type id) M J c Q X) X) (u:(x==("__debug__" : Str))=false):Ev g ⟨sc,vs,d,q⟩ (.Call (.Name x U) args [] pos) J Z Q X:=bM1 K Y.1 Y.2 h u
theorem Fg{U E:Pos}(Y:Bi g x (.builtin "isinstance"))(A:Bi g t (.type c))(K:sc.names.lookup x=some .globalImplicit)(D:sc.names.lookup t=some .globalImplicit)
  (h:Ev g ⟨sc,vs,d,q⟩ e J Z (λv u=>mQ g ⟨sc,vs,d,q⟩ (λy=>call (.builtin "isinstance") [y,.type c]) v J u Q X) X) (F:(x==("__debug__" : Str))=false) (C:(t==("__debug__" : Str))=false)
  (w:∀ env,mF [e,.Name t E] env=(false,eval e env)::mF [.Name t E] env):Ev g ⟨sc,vs,d,q⟩ (.Call (.Name x U) [e,.Name t E] [] pos) J Z Q X:=Py K Y.1 Y.2 D A.1 A.2 h F C w
theorem yj{U:Pos}(Y:Bi g x (.type "range"))(K:sc.names.lookup x=some .globalImplicit)
  (h:Ev g ⟨sc,vs,d,q⟩ e J Z (λv c=>∃ n,v=.int n/\u 0 n 1 c) X) (y:(x==("__debug__" : Str))=false) (w:∀ env,mF [e] env=(false,eval e env)::mF [] env):Rng g ⟨sc,vs,d,q⟩ (.Call (.Name x U) [e] [] pos) J Z u X:=Rb K Y.1 Y.2 h y w
end
def Ek(o:Option Stmt):PySem.DefRec:=match o with
 | some (.FunctionDef x c w _ _ _ u _ _ pos)=>⟨x,c,w,u,pos⟩
 | _=>⟨.ofString "",⟨[],[],none,[],[],none,[]⟩,[],default,default⟩
def Zz(o:Option Stmt):List Stmt:=match o with
 | some (.ClassDef _ _ _ w _ _ _ _ _ _ _)=>w
 | _=>[]
def dAt(p:Program)(k:Nat):PySem.DefRec:=bif k<1000 then Ek p.main.body[k]? else Ek (Zz p.main.body[k%1000]?)[k / 1000-1]?
def Fn(g:G)(x:Str):Prop:=∃ c w u,FnAt g x c w u/\∃ v,g.mg x=some v
def Gi(g:G)(x:Str)(i:Int):Prop:=∃ t,g.mg x=some (.int i t)
section
variable{g:G}{vs:List Str}{d:Nat}{q:Bool}{Q:V->Hp->Prop}
theorem Io{U:Pos}{args:List Expr}(T:Fn g x)(K:sc.names.lookup x=some .globalImplicit)(u:(x==("__debug__" : Str))=false)
  (h:Evs g ⟨sc,vs,d,q⟩ args J Z (λM c=>d8 g d q x M c Q X) X):Ev g ⟨sc,vs,d,q⟩ (.Call (.Name x U) args [] pos) J Z Q X:=
 by refine v8 T λN N N T S=>?_;refine d4 S λN S=>?_;exact Ow T S K h u
theorem Lf(T:Gi g x i)(K:sc.names.lookup x=some .globalImplicit)(c:(x==("__debug__" : Str))=false)(h:Q (.int i) Z):Ev g ⟨sc,vs,d,q⟩ (.Name x pos) J Z Q X:=
 by refine d4 T λt T=>?_;exact CX K T (λz_=>.int i t) h c
theorem Xu(Y:0<b)(h:Q (.int (a%b)) Z):mK g F (binaryOp .Mod) (.int a) (.int b) J Z Q X:=Iw (by exact Ne.symm (Int.ne_of_lt Y)) (by rw[Int.fmod_eq_emod_of_nonneg _ (by exact eU Y)];exact h)
theorem Mw(Y:0<b)(hl:b<2 ^ 64)(h:Q (.int (a / b)) Z):mK g F (binaryOp .FloorDiv) (.int a) (.int b) J Z Q X:=Xc (iM Y) (by
 have:b.natAbs.log2<64:=(Nat.log2_lt (Int.natAbs_ne_zero.mpr (iM Y))).mpr (by lia)
 exact aj this (aZ ..)) (by rw[Int.fdiv_eq_ediv_of_nonneg _ (eU Y)];exact h)
theorem Qq(M : -(2 ^ 60)<=a)(u:a<=2 ^ 60)(h:Q (.int (a*b)) Z):mK g F (binaryOp .Mult) (.int a) (.int b) J Z Q X:=yN h (PySem.IntMulOk.of_left (PySem.intBits_le_64 (l_9 M) (l_8 u)))
theorem Ky(M : -(2 ^ 60)<=b)(u:b<=2 ^ 60)(h:Q (.int (a*b)) Z):mK g F (binaryOp .Mult) (.int a) (.int b) J Z Q X:=yN h (PySem.IntMulOk.of_right (PySem.intBits_le_64 (l_9 M) (l_8 u)))
theorem i4(Y:Z b=some x)(c:Z a=none):upd Z a o b=some x:=by rw[e8 Z o (λe=>by rw[e,c] at Y;exact f8 Y)];exact Y
theorem WR(M:Z b=none)(c:b≠a):upd Z a o b=none:=by rw[e8 Z o c];exact M
theorem j3(h:upd Z a o b=none):b≠a/\Z b=none:=by
 by_cases e:b=a
 ·subst e;rw[d6] at h;exact C9 h
 ·exact⟨e,by rw[e8 Z o e] at h;exact h⟩
theorem p8(Y:Z b=some x)(c:b≠a):upd Z a o b=some x:=by rw[e8 Z o c];exact Y
theorem j7(Y:Z b=some x)(c:Z a=none):b≠a:=λe=>by rw[e,c] at Y;exact f8 Y
theorem d8.mono(h:d8 g d q f as Z Q X)(k:∀ v Z,Q v Z->w v Z):d8 g d q f as Z w X:=(λA s vs a Za S L x I y C=>
 mq (h A s vs a Za S L x I y C) (λr E p=>by
  cases r with
  | error e=>exact p
  | ok f=>cases f with
   | ret v=>refine p _ ?_;intro V u a b c e;exact λz_ D=>D V u a b c (k _ _ e)
   | _=>exact p.elim))
end
section
set_option maxRecDepth 100000
set_option maxHeartbeats 8000000
open PySem PySem.W PyProof.Rows
noncomputable def ent(P:Params)(k:String)(t:Nat)(v:Value):DictEntry:=⟨PyData.keyHash P (aa k),.str (aa k) t,v⟩
noncomputable def fe:Value:=.str (aa "formlines.errors") 187
noncomputable def nsO(P:Params)(a t L:Nat):Obj:={cls:=.type "dict",data:=.dict #[ent P "__module__" (t+7) fe,ent P "__firstlineno__" (t+11) (.int L (t+10)),ent P "__static_attributes__" (t+12) (.ref (a+7)),ent P "__doc__" (t+13) .none] 2}
noncomputable def clO(a t:Nat)(x:String):Obj:={cls:=.type "type",data:=.cls {name:=aa x,bases:=[.ref 24],mro:=[.ref (a+9),.ref 24,.type "ValueError",.type "Exception",.type "BaseException",.type "object"],ns:=a+8,qualname:=aa x},slots:=#[some (.ref a),none,some (.str (aa x) t),some (.str (aa x) (t+8)),some (.builtin "ValueError.__new__"),some (.bool true)]}
noncomputable def coO(a t L:Nat)(x:String):Obj:={cls:=.type "code",data:=.fields #[.str (aa x) t,.str (aa x) (t+1),.str (aa "/claim/cut.py") (t+2),.int L 0,.int 0 0,.int 0 0,.int 0 0,.int 0 0,.ref a,.bool false,.int 181 0,.ref (a+1),.none,.none,.none,.none,.int (t+3) 0,.int L 0,.str (aa "/claim/cut.py") (t+4)]}
noncomputable def nF:Obj:={cls:=.type "tuple",data:=.seq #[]}
noncomputable def tE:Obj:={cls:=.none,data:=.fields #[]}
noncomputable def bfO(x:String)(v:Value):Obj:={cls:=.type "builtin_function_or_method",data:=.fields #[.builtin x,v]}
noncomputable def frO(a b:Nat)(v:Value):Obj:={cls:=.type "frame",slots:=#[some (.ref a),some (.ref 3),some (.ref b),none,some v,none,some (.ref 0)]}
noncomputable def ldO(P:Params)(a t L:Nat)(x:String):Obj:={cls:=.type "dict",data:=.dict #[ent P "__module__" t fe,ent P "__qualname__" (t+2) (.str (aa x) (t+1)),ent P "__firstlineno__" (t+4) (.int L (t+3)),ent P "__static_attributes__" (t+5) (.ref a)] 4}
noncomputable def suO(a:Nat):Obj:={cls:=.type "super",data:=.fields #[.ref a,.ref a,.ref a]}
noncomputable def G7(P:Params)(a t L:Nat)(x:String):List Obj:=[{cls:=.type "tuple",data:=.seq #[.ref 24]},bfO "type.__prepare__" (.type "type"),ldO P (a+7) (t+7) L x,nF,tE,coO (a+3) (t+2) L x,frO (a+5) (a+2) fe,nF,nsO P a t L,clO a t x,suO (a+9),bfO "object.__init_subclass__" (.ref (a+9))]
noncomputable def zZ(P:Params):Obj:={cls:=.type "dict",data:=.dict #[ent P "__module__" 196 fe,ent P "__firstlineno__" 200 (.int 2 199),ent P "__static_attributes__" 201 (.ref 22),ent P "__weakref__" 203 (.ref 25),ent P "__doc__" 204 .none] 3}
noncomputable def yd:Obj:={cls:=.type "type",data:=.cls {name:=aa "FormError",bases:=[.type "ValueError"],mro:=[.ref 24,.type "ValueError",.type "Exception",.type "BaseException",.type "object"],ns:=23,qualname:=aa "FormError",subclasses:=[.ref 37,.ref 49,.ref 61,.ref 73,.ref 85,.ref 97,.ref 109,.ref 121,.ref 133]},slots:=#[some (.ref 15),none,some (.str (aa "FormError") 189),some (.str (aa "FormError") 197),some (.builtin "ValueError.__new__"),some (.bool true)]}
set_option genSizeOf false in
set_option genInjectivity false in
structure MR where
 nm:String
 q:String
 k:Nat
 f:Nat
 c:Nat
 t:Nat
 L:Nat
 n:Nat
 a:Nat
 v:Value
 w:Value
 r:Nat
 T:Nat
noncomputable def mL:List MR:=[⟨"__init__","File.__init__",1050,300,299,632,226,3,296,.none,.none,298,635⟩,⟨"reckon","File.reckon",2050,305,304,638,234,1,301,.none,.none,303,641⟩,⟨"renew","File.renew",3050,312,311,644,238,1,306,(.ref 308),(.ref 309),310,652⟩,⟨"need_year","File.need_year",4050,319,318,655,248,2,313,(.ref 315),(.ref 316),317,660⟩,⟨"put","File.put",5050,326,325,663,252,4,320,(.ref 322),(.ref 323),324,670⟩,⟨"take","File.take",6050,333,332,673,259,4,327,(.ref 329),(.ref 330),331,680⟩,⟨"values","File.values",7050,340,339,683,266,2,334,(.ref 336),(.ref 337),338,688⟩,⟨"value","File.value",8050,347,346,691,270,3,341,(.ref 343),(.ref 344),345,697⟩,⟨"owed","File.owed",9050,352,351,700,276,1,348,.none,.none,350,703⟩,⟨"told","File.told",10050,359,358,706,279,2,353,(.ref 355),(.ref 356),357,711⟩]
noncomputable def fnM(m:MR):Obj:={cls:=.type "function",data:=.func (E0 (aa m.nm) (aa m.q) (dAt mJ m.k).params (dAt mJ m.k).body (dAt mJ m.k).scope (.str (aa "formlines.files") 616) (.ref m.c) .none)}
noncomputable def coM(m:MR):Obj:={cls:=.type "code",data:=.fields #[.str (aa m.nm) m.t,.str (aa m.q) (m.t+1),.str (aa "/claim/cut.py") (m.t+2),.int m.L 0,.int m.n 0,.int 0 0,.int 0 0,.int 3 0,.ref m.a,.bool true,.int 181 0,.ref (m.a+1),.none,m.v,m.w,.ref m.r,.int m.T 0,.int m.L 0,.str (aa "/claim/cut.py") (m.T+1)]}
noncomputable def qG(P:Params):Array DictEntry:=#[ent P "__name__" 165 (.str (aa "law_uf010038_10") 726),ent P "__doc__" 166 .none,ent P "__package__" 167 .none,ent P "__loader__" 168 (.builtin "__main__.__loader__#opaque"),ent P "__spec__" 169 .none,ent P "__annotations__" 170 (.ref 6),ent P "__builtins__" 171 (.ref 4),ent P "__file__" 173 (.str (aa "/claim/cut.py") 172),ent P "__cached__" 174 .none,ent P "FormError" 206 (.ref 24),ent P "NoTable" 222 (.ref 37),ent P "NoForm" 238 (.ref 49),ent P "NoRule" 254 (.ref 61),ent P "Ring" 270 (.ref 73),ent P "NoPaper" 286 (.ref 85),ent P "NoYear" 302 (.ref 97),ent P "NoLine" 318 (.ref 109),ent P "NoChoice" 334 (.ref 121),ent P "TooMany" 350 (.ref 133),ent P "GREATEST" 354 (.int 1000000000 353),ent P "MOST_ROWS" 356 (.int 20 355),ent P "is_from" 365 (.ref 142),ent P "is_number" 372 (.ref 149),ent P "is_row" 379 (.ref 156),ent P "is_table" 385 (.ref 161),ent P "at_number" 397 (.ref 168),ent P "DEEPEST" 401 (.int 8 400),ent P "LONGEST" 403 (.int 8 402),ent P "LETTERS" 405 (.str (aa "abcdefghijklmnopqrstuvwxyz") 404),ent P "SIZES" 442 (.ref 169),ent P "is_word" 448 (.ref 174),ent P "within" 456 (.ref 181),ent P "is_fitting" 467 (.ref 188),ent P "is_one" 479 (.ref 195),ent P "is_rule" 489 (.ref 202),ent P "gathered" 499 (.ref 209),ent P "named" 507 (.ref 216),ent P "MOST_LINES" 511 (.int 40 510),ent P "MOST_TABLES" 513 (.int 5 512),ent P "MOST_CHOICES" 515 (.int 8 514),ent P "steps_to" 528 (.ref 223),ent P "ring_from" 534 (.ref 228),ent P "ring_of" 540 (.ref 233),ent P "form_of" 546 (.ref 238),ent P "order_of" 552 (.ref 243),ent P "papers_of" 563 (.ref 250),ent P "need_taken" 572 (.ref 257),ent P "of_two" 581 (.ref 264),ent P "leaf" 594 (.ref 271),ent P "worth" 603 (.ref 278),ent P "reckoned" 609 (.ref 283),ent P "history" 615 (.ref 288),ent P "MOST_YEARS" 619 (.int 8 618),ent P "File" 725 (.ref 362),ent P "_law_cell_at" 735 (.ref 373),ent P "_law_mixed" 743 (.ref 380),ent P "_law_next" 751 (.ref 387),ent P "_law_whole" 758 (.ref 394),ent P "_law_number" 766 (.ref 401),ent P "_law_table" 778 (.ref 408),ent P "_law_words" 790 (.ref 415),ent P "_law_plain" 801 (.ref 422),ent P "_law_rule" 815 (.ref 429),ent P "_law_sizes" 826 (.ref 436),ent P "_law_order" 836 (.ref 443),ent P "_law_form" 842 (.ref 448),ent P "_law_named" 848 (.ref 453),ent P "_law_at" 858 (.ref 460),ent P "_law_value" 870 (.ref 467),ent P "_law_alone" 878 (.ref 474),ent P "_law_row" 884 (.ref 479),ent P "_law_all" 900 (.ref 486),ent P "_law_changed" 911 (.ref 493),ent P "_law_told" 919 (.ref 500),ent P "_law_tried" 927 (.ref 507),ent P "_law_refused" 937 (.ref 514),ent P "_law_wrong" 954 (.ref 521),ent P "_law_deed" 966 (.ref 528),ent P "_law_noted" 972 (.ref 533),ent P "_law_kept" 981 (.ref 540),ent P "_law_looked" 987 (.ref 545),ent P "_law_step" 993 (.ref 550),ent P "_law_begun" 999 (.ref 555),ent P "law" 1005 (.ref 560)]
noncomputable def o3(P:Params):Obj:={cls:=.type "dict",data:=.dict (qG P) 84}
noncomputable def myK(P:Params):Frag:=[(3,o3 P),(169,{cls:=.type "dict",data:=.dict #[ent P "number" 406 (.int 2 407),ent P "paper" 408 (.int 2 409),ent P "line" 410 (.int 2 411),ent P "earlier" 412 (.int 2 413),ent P "add" 414 (.int 3 415),ent P "take" 416 (.int 3 417),ent P "least" 418 (.int 3 419),ent P "most" 420 (.int 3 421),ent P "part" 422 (.int 3 423),ent P "table" 424 (.int 3 425),ent P "where" 426 (.int 4 427),ent P "choose" 428 (.int 4 429)] 12}),(24,yd),(23,zZ P),(37,clO 28 207 "NoTable"),(36,nsO P 28 207 4),(49,clO 40 223 "NoForm"),(48,nsO P 40 223 6),(61,clO 52 239 "NoRule"),(60,nsO P 52 239 8),(73,clO 64 255 "Ring"),(72,nsO P 64 255 10),(85,clO 76 271 "NoPaper"),(84,nsO P 76 271 12),(97,clO 88 287 "NoYear"),(96,nsO P 88 287 14),(109,clO 100 303 "NoLine"),(108,nsO P 100 303 16),(121,clO 112 319 "NoChoice"),(120,nsO P 112 319 18),(133,clO 124 335 "TooMany"),(132,nsO P 124 335 20),(362,{cls:=.type "type",data:=.cls {name:=aa "File",bases:=[.type "object"],mro:=[.ref 362,.type "object"],ns:=361,qualname:=aa "File"},slots:=#[none,none,some (.str (aa "File") 620),some (.str (aa "File") 628),some (.builtin "object.__new__"),some (.bool true)]}),(361,{cls:=.type "dict",data:=.dict #[ent P "__module__" 627 (.str (aa "formlines.files") 616),ent P "__firstlineno__" 631 (.int 224 630),ent P "__init__" 637 (.ref 300),ent P "reckon" 643 (.ref 305),ent P "renew" 654 (.ref 312),ent P "need_year" 662 (.ref 319),ent P "put" 672 (.ref 326),ent P "take" 682 (.ref 333),ent P "values" 690 (.ref 340),ent P "value" 699 (.ref 347),ent P "owed" 705 (.ref 352),ent P "told" 713 (.ref 359),ent P "__static_attributes__" 718 (.ref 360),ent P "__dict__" 720 (.ref 363),ent P "__weakref__" 722 (.ref 364),ent P "__doc__" 723 .none] 4})]++mL.flatMap λm=>[(m.f,fnM m),(m.c,coM m)]
noncomputable def cq4(no:List Nat)(l:List Stmt):List Stmt:=(l.zipIdx.filter λx=>!no.contains x.2).map (·.1)
noncomputable def viw:Program:={mJ with main:={mJ.main with body:=cq4 [0,11,19,31,40,48,51] mJ.main.body}}
theorem qP:OpenLaw.wellSaid PySem.Challenge.rw_uf010038_10=true:=by kernel_rfl
noncomputable def su(s:Shared):Bool:=xlAt viw [] s&&recOk (RowW.records (OpenRow.toRowW (OpenLaw.row PySem.Challenge.rw_uf010038_10))) s
noncomputable def mn:Value:=.str (aa "__main__") 164
noncomputable def ut:List Obj->Nat->BT->BT
 | [],_,t=>t
 | o::l,n,t=>ut l (n+1) (t.ins n o)
noncomputable def mO(P:Params)(os:OsState):SharedT:=⟨ut [boot_o_0 P,boot_o_1 P,boot_o_2 P,boot_o_3 P,boot_o_4 P,boot_o_5 P,boot_o_6 P,boot_o_7 P,boot_o_8 P,boot_o_9 P,boot_o_10 P,nF,tE,coO 11 182 1 "<module>",frO 13 3 mn] 0 .nil,15,{},#[],boot_drawn,187,os⟩
noncomputable def stM(P:Params)(os:OsState):SharedT:=⟨ut ([boot_o_0 P,boot_o_1 P,boot_o_2 P,{cls:=.type "dict",data:=.dict #[ent P "__name__" 165 (.str (aa "formlines.errors") 187),ent P "__doc__" 166 .none,ent P "__package__" 167 .none,ent P "__loader__" 168 (.builtin "__main__.__loader__#opaque"),ent P "__spec__" 169 .none,ent P "__annotations__" 170 (.ref 6),ent P "__builtins__" 171 (.ref 4),ent P "__file__" 173 (.str (aa "/claim/cut.py") 172),ent P "__cached__" 174 .none,ent P "FormError" 206 (.ref 24),ent P "NoTable" 222 (.ref 37),ent P "NoForm" 238 (.ref 49),ent P "NoRule" 254 (.ref 61),ent P "Ring" 270 (.ref 73),ent P "NoPaper" 286 (.ref 85),ent P "NoYear" 302 (.ref 97),ent P "NoLine" 318 (.ref 109),ent P "NoChoice" 334 (.ref 121),ent P "TooMany" 350 (.ref 133)] 19},boot_o_4 P,boot_o_5 P,boot_o_6 P,boot_o_7 P,boot_o_8 P,boot_o_9 P,boot_o_10 P,nF,{cls:=.none,data:=.fields #[.int 2 0,.int 0 0,.ref 20,.int 4 0,.int 0 0,.ref 33,.int 6 0,.int 0 0,.ref 45,.int 8 0,.int 0 0,.ref 57,.int 10 0,.int 0 0,.ref 69,.int 12 0,.int 0 0,.ref 81,.int 14 0,.int 0 0,.ref 93,.int 16 0,.int 0 0,.ref 105,.int 18 0,.int 0 0,.ref 117,.int 20 0,.int 0 0,.ref 129]},coO 11 182 1 "<module>",frO 13 3 mn,{cls:=.type "tuple",data:=.seq #[.type "ValueError"]},bfO "type.__prepare__" (.type "type"),ldO P 22 196 2 "FormError",nF,tE,coO 18 191 2 "FormError",frO 20 17 fe,nF,zZ P,yd,{cls:=.type "getset_descriptor",data:=.fields #[.str (aa "__weakref__") 202,.ref 24,.builtin "ExceptionGroup.__weakref__",.none]},suO 24,bfO "object.__init_subclass__" (.ref 24)]++G7 P 28 207 4 "NoTable" ++ G7 P 40 223 6 "NoForm" ++ G7 P 52 239 8 "NoRule" ++ G7 P 64 255 10 "Ring" ++ G7 P 76 271 12 "NoPaper" ++ G7 P 88 287 14 "NoYear" ++ G7 P 100 303 16 "NoLine" ++ G7 P 112 319 18 "NoChoice" ++ G7 P 124 335 20 "TooMany") 0 .nil,136,{},#[],boot_drawn,351,os⟩
noncomputable def oE:Env:={scope:=mJ.main.scope,locals:=mainNs,globals:=mainNs,cells:=[],code:=.ref 13,frame:=some 14}
noncomputable def bdT:List Stmt:=behindTheImports mJ
noncomputable def cdT:Code:=.body bdT oE
noncomputable def p00:Pos:=⟨0,0,0,0⟩
noncomputable def pM:Pos:=⟨20,0,21,8⟩
theorem ct1:opening mJ=plainProg mJ.main.scope.names:=by kernel_rfl
theorem Ik(s:Shared):fenceModules? mJ s=some s:=by kernel_rfl
theorem bq1(w:World)(os:OsState):topGo treeTable mJ w 11 (some (.ref 6)) 12 ⟨boot_heap w.params,#[],boot_drawn,boot_toks,os⟩ (topStub mJ)=some ((mO w.params os).abs,⟨denote treeTable cdT,cdT,p00,[topFrame p00]⟩):=by kernel_rfl
theorem bN9(w:World)(os:OsState):segRun treeTable mJ w 11 (some (.ref 6)) 1 1 (mO w.params os).abs (blockOf bdT oE cdT p00 [topFrame p00])=some (.next,(mO w.params os).abs,cdT,p00):=by kernel_rfl
theorem Zq(w:World):((boot_heap w.params).isNs mainGlobals&&(#[]:Array GenState).size==0,(boot_heap w.params).objs.size,(boot_heap w.params).nsMap mainGlobals "__annotations__")=(true,11,some (.ref 6)):=by kernel_rfl
theorem Gq{w:World}{c:Code}:topRun treeTable mJ w 11 (some (.ref 6)) 2 s ⟨doneF .next,c,pos,[topFrame p00]⟩=some s:=by
 obtain⟨h,g,d,k,os⟩:=s;rfl
theorem Rh(w:World)(os:OsState):segRunT treeTable mJ w 11 (some (.ref 6)) 1 2163 (mO w.params os) (piecesOf (bdT.take 11) oE cdT p00 [topFrame p00])=some (.next,stM w.params os,cdT,pM):=by kernel_rfl
noncomputable def lks(P:Params)(s:Shared):=((staticsOk (importedModules mJ.main.body) (boot_heap P) s.heap&&namesBound mJ s.heap&&gensDone s&&laidKept (boot_heap P) s.heap),openSeen viw [aa "SIZES"] (importedModules mJ.main.body) su true s,Hook.obs (kHook myK [3,169,24,23,37,36,49,48,61,60,73,72,85,84,97,96,109,108,121,120,133,132,362,361,300,299,305,304,312,311,319,318,326,325,333,332,340,339,347,346,352,351,359,358] (λ_=>rfl)) s)
noncomputable def uy(w:World)(os:OsState):=(segRunT treeTable mJ w 11 (some (.ref 6)) 1 2554 (stM w.params os) (piecesOf (bdT.drop 11) oE cdT pM [topFrame p00])).map λx=>(x.1,x.2.2.1,lks w.params x.2.1.abs)
theorem Ss(w:World)(os:OsState):uy (w.withFollow "special-get-raises" true) os=some (.next,cdT,true,openGood viw [aa "SIZES"],Hook.val (kHook myK [3,169,24,23,37,36,49,48,61,60,73,72,85,84,97,96,109,108,121,120,133,132,362,361,300,299,305,304,312,311,319,318,326,325,333,332,340,339,347,346,352,351,359,358] (λ_=>rfl)) (w.withFollow "special-get-raises" true)):=by kernel_rfl
theorem LQ(w:World)(os:OsState):uy (w.withFollow "special-get-raises" false) os=some (.next,cdT,true,openGood viw [aa "SIZES"],Hook.val (kHook myK [3,169,24,23,37,36,49,48,61,60,73,72,85,84,97,96,109,108,121,120,133,132,362,361,300,299,305,304,312,311,319,318,326,325,333,332,340,339,347,346,352,351,359,358] (λ_=>rfl)) (w.withFollow "special-get-raises" false)):=by kernel_rfl
theorem Ks(w:World)(os:OsState):uy w os=some (.next,cdT,true,openGood viw [aa "SIZES"],Hook.val (kHook myK [3,169,24,23,37,36,49,48,61,60,73,72,85,84,97,96,109,108,121,120,133,132,362,361,300,299,305,304,312,311,319,318,326,325,333,332,340,339,347,346,352,351,359,358] (λ_=>rfl)) w):=by
 have e:=World.withFollow_self w "special-get-raises";cases hb:w.params.followText "special-get-raises" with
 | true=>rw[hb] at e;have:=Ss w os;rw[e] at this;exact this
 | false=>rw[hb] at e;have:=LQ w os;rw[e] at this;exact this
theorem Nv{w:World}{r:Shared}{n:Nat}{ann:Option Value}(z1:(s.heap.isNs mainGlobals&&s.gens.size==0)=true)(z2:s.heap.objs.size=n)(z3:s.heap.nsMap mainGlobals "__annotations__" = ann)(h:topRun treeTable mJ w n ann 5000 s (topStub mJ)=some r)
  (l:(staticsOk (importedModules mJ.main.body) s.heap r.heap&&namesBound mJ r.heap&&gensDone r&&laidKept s.heap r.heap)=true):topFrom treeTable mJ w 5000 s=some r:=by
 unfold topFrom;rw[z1,z2,z3,h];show(match staticsOk (importedModules mJ.main.body) s.heap r.heap&&namesBound mJ r.heap&&gensDone r&&laidKept s.heap r.heap with | true=>_ | false=>_)=_
 rw[l]
theorem left:LeftO mJ viw [aa "SIZES"] su (Hook.obs (kHook myK [3,169,24,23,37,36,49,48,61,60,73,72,85,84,97,96,109,108,121,120,133,132,362,361,300,299,305,304,312,311,319,318,326,325,333,332,340,339,347,346,352,351,359,358] (λ_=>rfl))) (Hook.val (kHook myK [3,169,24,23,37,36,49,48,61,60,73,72,85,84,97,96,109,108,121,120,133,132,362,361,300,299,305,304,312,311,319,318,326,325,333,332,340,339,347,346,352,351,359,358] (λ_=>rfl))) 5000:=λw=>by
 obtain⟨⟨h,gs,d,k,os⟩,e,e'⟩:=aR.mp (boot_open (N:=5000) ct1 (by decide) Ik w)
 obtain⟨rfl,rfl,rfl,rfl⟩:h=boot_heap w.params/\gs=#[]/\d=boot_drawn/\k=boot_toks:=by simpa using e'
 obtain⟨z1,z2,z3⟩:_/\_/\_:=by simpa only[Prod.mk.injEq] using Zq w
 obtain⟨⟨f,s',c',q'⟩,h1,h2⟩:=aR.mp (Ks w os);obtain⟨h2,h3⟩:=Prod.mk.inj h2;obtain⟨h4,h5⟩:=Prod.mk.inj h3;obtain⟨l1,h6⟩:=Prod.mk.inj h5;obtain⟨l2,l3⟩:=Prod.mk.inj h6;dsimp only at h2 h4
 subst h2 h4;have r:topRun treeTable mJ w 11 (some (.ref 6)) (12+(1+(2163+(2554+2)))) ⟨boot_heap w.params,#[],boot_drawn,boot_toks,os⟩ (topStub mJ)=some s'.abs:=by
  refine go_top (bq1 w os) (piece_block (bN9 w os) ?_);have a:=piece_app (l:=bdT.drop 11) (rest:=[]) (segRun_of h1) (piece_nil Gq);rw[bI] at a;have b:=piece_app (l:=bdT.take 11) (rest:=bdT.drop 11) (segRun_of (Rh w os)) a;rw[List.take_append_drop] at b;exact b
 have r:=topRun_mono (5000-(12+(1+(2163+(2554+2))))) _ _ _ _ r;unfold openEnds;rw[e];show(topFrom treeTable mJ w 5000 _).map _=_;rw[Nv z1 z2 z3 r l1];exact congrArg some (Prod.ext l2 l3)
end
section
variable{g:G}{vs:List Str}{d:Nat}{q:Bool}{Q:V->Hp->Prop}
theorem Inv.sub{A env s Z'}(I:Inv g F A env J Z s)(k:Sub Z' Z):Inv g F A env J Z' s:=I.keep (Step.refl.sub k) (I.sim.sub k)
theorem Ev.drop(h:Ev g F e J Z (λv Z'=>∃ w,Sub w Z'/\Q v w) (λx Z'=>∃ w,Sub w Z'/\X x w)):Ev g F e J Z Q X:=(λA R s I=>
 lY (h A R s I) (λN N p=>by refine p _ ?_;clear p;rintro V Z' r i y ⟨w,k,q⟩;exact(λN c=>c V w r (i.sub k) (y.sub k) q)) λN N p=>by refine p _ ?_;clear p;rintro x Z' f i y ⟨w,k,q⟩;exact(λN c=>c x w (f.sub k) (i.sub k) (y.sub k) q))
theorem Ev.xmono(h:Ev g F e J Z Q X)(k:∀ v Z,X v Z->c v Z):Ev g F e J Z Q c:=(λA R s I=>
 lY (h A R s I) (λN N p=>p) (λN N p=>by refine p _ ?_;clear p;rintro V u r i y q;exact(λN w=>w V u r i y (k _ _ q))))
theorem E9(k:Sub Z' Z):Sub (upd Z' a o) (upd Z a o):=λb U e=>by
 unfold upd at e ⊢
 split at e
 ·rw[if_pos ‹_›];exact e
 ·rw[if_neg ‹_›];exact k b U e
theorem B8(st:Step fr own Z Z' s s'):Step fr own (upd Z a o) (upd Z' a o) s s':=
 ⟨st.same,st.dom,λb c Y C P=>st.keep b c Y (j3 C).2 P,st.tups,λb c Y C=>by
  refine d5 (j3 C) λZa S=>?_
  rw[e8 _ _ Za];exact st.new b c Y S⟩
theorem vC(r:u5 g s.heap a o)(Y:g.h₀.get? a=none)(x:Sim g Z' s'.heap)(st:Step fr own Z Z' s s')(u:¬ own a)(M:Z a=none)(w:¬ fr a):Sim g (upd Z' a o) s'.heap/\Z' a=none:=by
 refine d4 r.has λy P=>⟨⟨x.stays,λb U e=>?_⟩,st.new a _ P M⟩
 by_cases c:b=a
 ·subst c
  rw[d6] at e;exact d7 e▸⟨r.keep st.tups λy e=>st.exact e M u w,Y⟩
 ·rw[e8 _ _ c] at e
  exact x.objs b U e
theorem FrL.sub(x:FrL g A Z h)(k:Sub Z' Z):FrL g A Z' h:=by
 k_extra"bt";rintro l hl all;refine(λz_ c=>c l hl (λe w=>(all e w) _ ?_))
 rintro L Za S u y o P d;refine(λz_ c=>c L Za S u ?_ o P d)
 cases q:Z' L with
 | none=>rfl
 | some o=>rw[<- k L o q,y]
theorem Fly.frame(f:Fly g A e x s.heap Z' h)(r:u5 g s.heap a o):Fly g A e x s.heap (upd Z' a o) h:=f.sig λb n Y=>by
 refine d4 r.has λc P=>?_
 rw[e8 _ _ (λq=>by rw[q,P] at n;exact C9 n)];exact Y
theorem qw{A env s Z' s'}(I:Inv g F A env J (upd Z a o) s)(c:Inv g F A env J Z' s')(st:Step (inF A) f5 Z Z' s s')(M:Z a=none):Inv g F A env J (upd Z' a o) s'/\Z' a=none:=by
 k_extra"c3"
 obtain⟨Za,S⟩:=vC r hb c.sim st id M (I.frs.not (.inr (by rw[d6];exact gw _)))
 exact⟨I.keep (B8 st) Za,S⟩
theorem Ev.frame(h:Ev g F e J Z Q X)(M:Z a=none):Ev g F e J (upd Z a o) (λv c=>∃ u,c=upd u a o/\u a=none/\Q v u) (λv c=>∃ u,c=upd u a o/\u a=none/\X v u):=(λA R s I=>by
 refine pgo (h A R s (I.sub (Sub.upd (o:=o) M))) (λv C V u r w D q=>d5 (qw I w D M) λJa x=>(λz_ y=>y V _ r Ja (B8 D) ⟨u,rfl,x,q⟩)) λv C K=>?_
 ·refine K _ ?_;clear K;rintro V u r w D q
  refine d5 (qw I w D M) λJa x=>?_
  exact(λz_ y=>y V _ (r.frame (I.sim.objs a o (d6 _ _ _)).1) Ja (B8 D) ⟨u,rfl,x,q⟩))
theorem Evs.mono{Q:List V->Hp->Prop}(h:Evs g F M J Z Q X)(k:∀ v Z,Q v Z->c v Z):Evs g F M J Z c X:=(λA R s pos I=>
 ⟨N9 (h A R s pos I).1 (λN N V u r i y q=>(λN w=>w V u r i y (k _ _ q))) λN N p=>p,(h A R s pos I).2⟩)
theorem Evs.xmono{Q:List V->Hp->Prop}(h:Evs g F M J Z Q X)(k:∀ v Z,X v Z->c v Z):Evs g F M J Z Q c:=(λA R s pos I=>
 ⟨lY (h A R s pos I).1 (λN N p=>p) (λN N p=>by refine p _ ?_;clear p;rintro V u r i y q;exact(λN w=>w V u r i y (k _ _ q))),(h A R s pos I).2⟩)
theorem Lr(h:Evs g F M J Z (λvs w=>vs.length<=sizeLine/\Ev g F y J w (λk c=>∃ n x,k=.int n/\0<=n/\n<2 ^ 63/\vs[n.toNat]?=some x/\Q x c) X) X)
  (I:∀ o i,subscripted y false o i=operate [o,i] (getItem o i)):Ev g F (.Subscript (.List M p) y pos) J Z Q X:=by
 refine Ev.drop (rW (uc ((h.xmono λx Z h=>⟨Z,Sub.refl _,h⟩).mono λvs w ⟨hl,H⟩=>⟨hl,λa E=>((Ev.frame H E).mono ?_).xmono ?_⟩)) I)
 ·rintro k c A;obtain⟨u,rfl,C,n,x,rfl,Y,Za,U,D⟩:=A
  exact rP (d6 _ _ _) Y Za U ⟨u,Sub.upd C,D⟩
 ·rintro x c A;refine f6 A λu Ja C D=>?_;clear A;subst Ja
  exact⟨u,Sub.upd C,D⟩
end
section
variable{g:G}{vs:List Str}{d:Nat}{Q:V->Hp->Prop}
def s5(a:Int):Prop:=-(2 ^ 60)<=a/\a<=2 ^ 60
theorem lng(h : -2 ^ 60<=a/\a<=2 ^ 60) : -9223372036854775808<=a/\a<9223372036854775808:=⟨aW (by decide) h.1,bG h.2 (by decide)⟩
theorem wB(M:s5 a)(Y:s5 b):Builtin.Range.small a b 1=true:=by
 unfold Builtin.Range.small Builtin.Range.rangeSize Builtin.Range.rangeFitsLong;simp
 refine⟨⟨⟨lng M,lng Y⟩,?_⟩,.inr (lng Y)⟩;by_cases q:a<b
 ·rw[if_pos q];exact⟨aW (by decide) (Int.sub_le_sub Y.1 M.2),bG (Int.sub_le_sub Y.2 M.1) (by decide)⟩
 ·rw[if_neg q];decide
theorem zK(a b:Int):(Builtin.Range.rangeSize a b 1).toNat=(b-a).toNat:=by
 unfold Builtin.Range.rangeSize;simp
 split<;>lia
theorem ce2(h:i<n):(m7 a 1 n).drop i=.int (a+i)::(m7 a 1 n).drop (i+1):=by
 have hl:i<(m7 a 1 n).length:=by rw[O5];exact h
 rw[eN hl]
 congr 1
 simp[m7]
theorem yC(h:v::l=(m7 a 1 n).drop i):i<n/\v=.int (a+i)/\l=(m7 a 1 n).drop (i+1):=by
 by_cases c:i<n
 ·rw[ce2 c] at h
  cases h;exact⟨c,rfl,rfl⟩
 ·rw[List.drop_eq_nil_of_le (by rw[O5];exact XJ c)] at h;cases h
theorem xA(c:i<=n)(h:[]=(m7 a 1 n).drop i):i=n:=by
 have:=congrArg List.length h;simp[O5] at this;exact dB c (fO.mp this.symm)
end
section
variable{g:G}{vs:List Str}{d:Nat}{q:Bool}{Q:V->Hp->Prop}
def O9(P:Nat->V->Prop):Nat->List V->Prop
 | _,[]=>True
 | i,x::c=>P i x/\O9 P (i+1) c
theorem bz7:O9 P i []:=trivial
theorem Ih(h:P i x)(t:O9 P (i+1) xs):O9 P i (x::xs):=⟨h,t⟩
theorem tG{k:Int}{n:Nat}(Y:0<=k)(Za:k<n):seqIndex? k n=some k.toNat:=by
 unfold seqIndex?;simp[jl.mpr Y]
 exact⟨Y,Za⟩
theorem QF(h0:0<=k)(h1:k<l.length)(hz:k<2 ^ 63)(h:∀ x,l[k.toNat]?=some x->Q x Z):Itm g F (.tup l) (.int k) J Z Q X:=by
 have hl:k.toNat<l.length:=U8 h0 h1;exact Er (by exact aW (by decide) h0) hz (tG h0 h1) (ak hl) (h _ (ak hl))
theorem Nf{l:List V}{k:Int}(C:Z a=some (.L l))(h0:0<=k)(h1:k<l.length)(hz:k<2 ^ 63)(h:∀ x,l[k.toNat]?=some x->Q x Z):Itm g F (.ref a) (.int k) J Z Q X:=by
 have hl:k.toNat<l.length:=U8 h0 h1;exact rP C h0 hz (ak hl) (h _ (ak hl))
theorem W8(Y:0<=j):clipAt n j=min j.toNat n:=by
 have:=clipAt_cast n j;rw[if_neg (jl.mpr Y)] at this;rw[<- dg (clipAt n j),this];rcases Int.le_total j n with h | h
 ·rw[jL h,gZ Y,gB (fW.mpr h)]
 ·rw[Int.min_eq_right h,gZ (bB n),dg,ig (Int.le_toNat Y |>.mpr h)]
theorem xU{c:Type}{l:List c}(Y:0<=j):slc none (some j) l=l.take j.toNat:=by
 show(l.drop 0).take (clipAt l.length j-0)=_;rw[List.drop_zero,Nat.sub_zero,W8 Y,<- List.take_eq_take_min]
theorem zy{c:Type}{l:List c}(Y:0<=j):slc (some j) none l=l.drop j.toNat:=by
 show(l.drop (clipAt l.length j)).take (l.length-clipAt l.length j)=_;rw[W8 Y,gV (by rw[ie];exact aV _)]
 rcases Nat.le_total j.toNat l.length with h | h
 ·rw[gB h]
 ·rw[ig h,jU (aV _),jU h]
theorem qO{A env s Z' s'}(I:Inv g F A env J (upd Z a o) s)(c:Inv g F A env P Z' s')(st:Step (inF A) (ownOf env) Z Z' s s')(M:Z a=none):Inv g F A env P (upd Z' a o) s'/\Z' a=none:=by
 k_extra"c3"
 have u:¬ ownOf env a:=λq=>by have:=I.loc.free a q;rw[d6] at this;exact C9 this
 obtain⟨Za,S⟩:=vC r hb c.sim st u M (I.frs.not (.inr (by rw[d6];exact gw _)))
 refine⟨⟨c.scope,c.fn,c.glob,c.bltn,c.room,c.units,c.quiet,Za,⟨c.loc.len,c.loc.ns,λb w=>?_,c.loc.live,c.loc.apart,c.loc.other⟩,c.base,c.nd,I.frs.step (B8 st)⟩,S⟩
 rw[e8 _ _ (fun(e:b=a)=>u (by rw[<- e];exact w))];exact c.loc.free b w
theorem Exs.frame{E:n5}(h:Exs g F H J Z C E)(M:Z a=none):Exs g F H J (upd Z a o) (λf P c=>∃ u,c=upd u a o/\u a=none/\C f P u) (λf P c=>∃ u,c=upd u a o/\u a=none/\E f P u):=(λA R s I=>by
 refine lY (h A R s (I.sub (Sub.upd (o:=o) M))) (λv L K=>?_) λv L K=>?_
 ·refine K _ ?_;clear K;rintro V P u r w D q
  exact d5 (qO I w D M) λJa x=>(λz_ y=>y V P _ r Ja (B8 D) ⟨u,rfl,x,q⟩)
 ·refine K _ ?_;clear K;rintro V P u r w D q
  refine d5 (qO I w D M) λJa x=>?_
  exact(λz_ y=>y V P _ (r.frame (I.sim.objs a o (d6 _ _ _)).1) Ja (B8 D) ⟨u,rfl,x,q⟩))
theorem Asg.frame(h:Asg g F t v J Z P)(M:Z a=none):Asg g F t v J (upd Z a o) P:=⟨λA R s x w E I y r k=>by
 refine h.run A R s x w E (I.sub (Sub.upd (o:=o) M)) y r λC c u D p=>?_
 exact k C c (qO I u D M).1 (B8 D) p,h.tgt⟩
theorem Asg.mono(h:Asg g F t v J Z P)(k:∀ J,P J->u J):Asg g F t v J Z u:=⟨λA R s x y E I C r Y=>h.run A R s x y E I C r λH c w D p=>Y H c w D (k _ p),h.tgt⟩
theorem Exs.xmono(h:Exs g F C J Z w x)(k:∀ f J Z,x f J Z->c f J Z):Exs g F C J Z w c:=(λA R s I=>
 lY (h A R s I) (λN N p=>p) λN N L=>by refine L _ ?_;clear L;rintro V P u r i y q;exact(λN D=>D V P u r i y (k _ _ _ q)))
theorem Ex.xdrop{Q:j5}{X:n5}(h:Ex g F u J Z (λv P Z'=>∃ w,Sub w Z'/\Q v P w) (λv P Z'=>∃ w,Sub w Z'/\X v P w)):Ex g F u J Z Q X:=(λA R s I=>
 lY (h A R s I) (λN N p=>by refine p _ ?_;clear p;rintro V P Z' r i y ⟨w,k,q⟩;exact(λN c=>c V P w r (i.sub k) (y.sub k) q)) (λN N p=>by refine p _ ?_;clear p;rintro V P Z' r i y ⟨w,k,q⟩;exact(λN c=>c V P w (r.sub k) (i.sub k) (y.sub k) q)))
theorem d8.frame(h:d8 g d q f as Z Q X)(M:Z a=none):d8 g d q f as (upd Z a o) (λv w=>∃ u,w=upd u a o/\u a=none/\Q v u) (λv w=>∃ u,w=upd u a o/\u a=none/\X v u):=(λA s vs c K S O P I T R=>by
 have x:∀ {u:Hp} {y:Shared},Sim g u y.heap->Step (inF A) f5 Z u s y->Sim g (upd u a o) y.heap/\u a=none:=fun{u y} sm st=>by
  refine d5 (I.objs a o (d6 _ _ _)) λr Y=>vC r Y sm st id M λq=>g8 q λl e hl he U=>T _ ?_
  clear T;rintro l' Za all;rw[hl] at Za;replace Za:=d7 Za;subst Za;refine(all e he) _ ?_;rintro L-hL-Ja - - -;rw[U] at hL;replace hL:=d7 hL;subst hL;rw[d6] at Ja;exact C9 Ja
 refine mq (h A s vs c K S O P (I.sub (Sub.upd M)) (T.sub (Sub.upd M)) R) (λr y p=>?_)
 cases r with
 | error v=>
  refine p _ ?_;intro V u E H C e;exact d5 (x H C) λy1 y2=>λz_ D=>D V _ (E.frame (I.objs a o (d6 _ _ _)).1) y1 (B8 C) ⟨u,rfl,y2,e⟩
 | ok f=>cases f with
  | ret v=>
   refine p _ ?_;intro V u E H C e;exact d5 (x H C) λy1 y2=>λz_ D=>D V _ E y1 (B8 C) ⟨u,rfl,y2,e⟩
  | _=>exact p.elim)
theorem d8.xmono(h:d8 g d q f as Z Q X)(k:∀ v Z,X v Z->w v Z):d8 g d q f as Z Q w:=(λA s vs a Za S L y I T C=>
 mq (h A s vs a Za S L y I T C) (λr E p=>by
  cases r with
  | error e=>refine p _ ?_;intro V u a b c x;exact λz_ D=>D V u a b c (k _ _ x)
  | ok f=>cases f with
   | ret v=>exact p
   | _=>exact p.elim))
theorem d8.under(h:d8 g d q f as Z Q noX)(M:Z a=none):d8 g d q f as (upd Z a o) (λv c=>∃ u,c=upd u a o/\u a=none/\Q v u) X:=
 (h.frame M).xmono λN N p=>by refine f6 p λN N N h=>?_;exact h.elim
end
def G4(xs:Array Nat):Prop:=∀ i j:Nat,i<j->∀ x y,xs[i]?=some x->xs[j]?=some y->x<y
theorem co1(A:G4 xs):∀ (q y u:Nat),u-y<=q->y<=u->u<=xs.size->(∀ i x,i<y->xs[i]?=some x->x<j)->(∀ i x,u<=i->xs[i]?=some x->j<=x)->
  (∀ i x,i<SetTable.below.go xs j q y u->xs[i]?=some x->x<j)/\(∀ i x,SetTable.below.go xs j q y u<=i->xs[i]?=some x->j<=x)/\SetTable.below.go xs j q y u<=xs.size:=by
 intro q;induction q with
 | zero=>
  intro y u T c E Za S;obtain rfl:y=u:=dB c (fO.mp (Nat.le_zero.mp T));exact⟨Za,S,E⟩
 | succ q Ja=>
  intro y u T c E Za S;by_cases D:y<u
  ·rw[show SetTable.below.go xs j (q+1) y u=if xs.getD ((y+u) / 2) j<j then SetTable.below.go xs j q ((y+u) / 2+1) u else SetTable.below.go xs j q y ((y+u) / 2) from if_pos D]
   have F:y<=(y+u) / 2:=(Nat.le_div_iff_mul_le (by decide)).mpr (by rw[Nat.mul_two];exact cM c y)
   have R:=Nat.div_lt_of_lt_mul (by rw[Nat.two_mul];exact Nat.add_lt_add_right D u)
   generalize (y+u) / 2=m at F R;have I:=aX R E;have C:=cj I;rw[show xs.getD m j=xs[m] from dif_pos I]
   by_cases O:xs[m]<j
   ·rw[if_pos O]
    refine Ja (m+1) u (aj (Nat.sub_le_sub_left (cU F) u) (Nat.pred_le_pred T)) R E (λi x H U=>?_) S
    rcases jc (cz H) with rfl | w
    ·rw[C] at U;exact d7 U▸O
    ·exact eX (A i m w x _ U C) O
   ·rw[if_neg O]
    refine Ja y m (cz (aX (Nat.sub_lt_sub_right F R) T)) F (bN I) Za (λi x H U=>?_)
    rcases jc H with rfl | w
    ·rw[C] at U;exact d7 U▸bU O
    ·exact aj (bU O) (bN (A m i w _ x C U))
  ·rw[show SetTable.below.go xs j (q+1) y u=y from if_neg D]
   obtain rfl:y=u:=dB c (bU D);exact⟨Za,S,E⟩
theorem ug(A:G4 xs):(∀ i x,i<SetTable.below xs j->xs[i]?=some x->x<j)/\(∀ i x,SetTable.below xs j<=i->xs[i]?=some x->j<=x)/\SetTable.below xs j<=xs.size:=
 co1 A xs.size 0 xs.size (aV _) (aY _) (aV _) (λi x h N=>absurd h (dX _)) (λi x h U=>absurd (cP.mp U).1 (dJ.mpr h))
theorem QH{c:Type}(xs:Array c)(p:Nat)(x:c):(SetTable.insertAt xs p x).toList=xs.toList.take p++x::xs.toList.drop p:=by
 unfold SetTable.insertAt;simp[gV]
theorem oV:G4 xs↔xs.toList.Pairwise (· < ·):=by
 constructor
 ·intro h
  rw[gC];exact λi j q P c=>h i j c _ _ (by rw[<- aU];exact ak q) (by rw[<- aU];exact ak P)
 ·intro h i j c x y U I
  rw[<- aU] at U I;obtain⟨q,rfl⟩:=aF.mp U;obtain⟨P,rfl⟩:=aF.mp I;exact gC.mp h i j q P c
theorem bN2(A:G4 xs)(E:xs[SetTable.below xs j]?≠some j):G4 (SetTable.insertAt xs (SetTable.below xs j) j):=by
 refine i5 (ug (j:=j) A) λZa S L=>?_
 have c:∀ i x,SetTable.below xs j<=i->xs[i]?=some x->j<x:=λi x u U=>by
  have q:=S i x u U;rcases Nat.lt_or_ge j x with C | C
  ·exact C
  ·obtain rfl:x=j:=dB C q
   rcases jc u with e | e
   ·exact absurd (by rw[e];exact U) E
   ·have Y:=eX e (cP.mp U).1
    exact absurd (A _ _ e _ _ (cj Y) U) (dJ.mpr (S _ _ (aV _) (cj Y)))
 rw[oV,QH];have D:=oV.mp A;refine lq.mpr ⟨D.sublist (List.take_sublist _ _),List.pairwise_cons.mpr ⟨λy I=>?_,D.sublist (List.drop_sublist _ _)⟩,λa M b Y=>?_⟩
 ·refine d4 (fX.mp I) λi u=>?_
  rw[List.getElem?_drop,aU] at u;exact c _ _ (cC _ _) u
 ·refine d4 (fX.mp M) λi u=>?_
  have w:i<SetTable.below xs j:=by
   have:=(aF.mp u).1;rw[eZ] at this;exact aX this (cB _ _)
  rw[List.getElem?_take_of_lt w,aU] at u;have F:=Za _ _ w u;rcases au.mp Y with rfl | Y
  ·exact F
  ·refine d4 (fX.mp Y) λk K=>?_
   rw[List.getElem?_drop,aU] at K;exact eX F (c _ _ (cC _ _) K)
theorem ca8(A:G4 xs):SetTable.below xs 0=0:=by
 refine i5 (ug (j:=0) A) λZa S L=>?_
 rcases Nat.eq_zero_or_pos (SetTable.below xs 0) with e | e
 ·exact e
 ·exact absurd (Za 0 _ e (cj (aX e L))) (dX _)
theorem Gu(A:G4 xs)(U:xs[i]?=some x):SetTable.below xs (x+1)=i+1:=by
 refine i5 (ug (j:=x+1) A) λZa S L=>?_
 have c:=(cP.mp U).1;rcases Nat.lt_trichotomy (SetTable.below xs (x+1)) (i+1) with q | q | q
 ·exact absurd (S i x (cz q) U) (Nat.not_succ_le_self _)
 ·exact q
 ·have Y:=aX q L
  exact absurd (A i (i+1) (dO _) _ _ U (cj Y)) (dJ.mpr (cz (Za (i+1) _ q (cj Y))))
structure Tidy(t:SetTable)(led:Bool):Prop where
 rise:G4 t.place
 nod:t.dummies=#[]
 led:t.led=led
theorem SM(led:Bool):Tidy (.fresh 0 0 led) led:=⟨λi j h x y U=>by simp[SetTable.fresh] at U,rfl,rfl⟩
theorem Hb(n:Nat):G4 (Array.range n):=by
 rw[oV];simp[jV]
theorem qp{led:Bool}(h:Tidy t led)(n:Nat):Tidy (t.standIn n) led:=⟨Hb n,rfl,h.led⟩
theorem Le{t:SetTable}(h:t.dummies=#[]):t.slot j≠.dummy:=by
 unfold SetTable.slot;dsimp only
 split
 ·simp
 ·rw[if_neg]
  ·simp
  ·unfold SetTable.has;rw[h];simp
theorem Oh(y:t.dummies=#[])(u:Nat):∀ (p:SetTable.Probe),p.dummy=none->∀ j d,SetTable.probe.go t c h u p=some (.empty j d)->t.slot j=.empty/\d=none:=by
 induction u with
 | zero=>intro p w j d e;cases e
 | succ u A=>
  intro p w j d e
  replace e:(match t.slot p.j with | .empty=>some (SetTable.Met.empty p.j p.dummy) | .dummy=>SetTable.probe.go t c h u (t.advance {p with dummy:=some p.j}) | .live i=>if c i==h then some (.candidate p.j i (t.advance p)) else SetTable.probe.go t c h u (t.advance p))=some (.empty j d):=e
  cases x:t.slot p.j with
  | empty=>rw[x] at e;cases e;exact⟨x,w⟩
  | dummy=>exact absurd x (Le y)
  | live i=>
   rw[x] at e;by_cases Y:(c i==h)=true
   ·exact absurd ((if_pos Y).symm.trans e) (λq=>by cases q)
   ·refine A _ ?_ j d ((if_neg Y).symm.trans e)
    unfold SetTable.advance
    split
    ·exact w
    ·exact w
theorem Ld{t:SetTable}(u:t.dummies=#[])(e:t.freeSlot h=some (j,b)):t.slot j=.empty:=by
 unfold SetTable.freeSlot at e;cases q:t.probe (λz_=>h+1) h (t.probeStart h) with
 | none=>rw[q] at e;cases e
 | some m=>
  rw[q] at e;cases m with
  | empty c d=>
   refine d5 (Oh u _ _ rfl _ _ q) λZa S=>?_
   clear q;subst S;cases e;exact Za
  | candidate c w x=>exact f8 e
theorem UG{t:SetTable}(h:t.slot j=.empty):t.place[SetTable.below t.place j]?≠some j:=λe=>by
 unfold SetTable.slot at h;dsimp only at h
 rw[if_pos (by rw[e];simp)] at h
 cases h
theorem XQ{t:SetTable}{led:Bool}(R:Tidy t led)(h:t.slot j=.empty):Tidy (t.put j).1 led:=by
 refine⟨bN2 R.rise (UG h),?_,R.led⟩;unfold SetTable.put;dsimp only
 rw[if_neg (by unfold SetTable.has;rw[R.nod];simp)]
 exact R.nod
set_option tactic.hygienic true in
theorem bx5{led:Bool}{M:Array (Int×Value)}{h:Int}{x:Value}(ht:Tidy t led):Tidy (layNew t M h x).2.1 led:=by
 unfold layNew
 split
 ·rename_i j b e
  have:=XQ ht (Ld ht.nod e);unfold SetTable.orStandIn;dsimp only
  split
  ·exact this
  ·exact qp this _
 ·exact qp ht _
theorem Jw{w9 q w:Nat}{led:Bool}{A:Array Nat}(e:SetTable.laid w9 q w led C u=some (t,A)):Tidy t led:=by
 unfold SetTable.laid at e;simp only[Option.bind_eq_bind,Option.bind_eq_some_iff,Option.pure_def,Option.some.injEq,Prod.mk.injEq] at e
 obtain⟨c,_,rfl,_⟩:=e;refine⟨?_,rfl,rfl⟩;rw[oV];simp only[List.map_filterMap]
 show List.Pairwise _ ((bh (w9+1)).filterMap _);refine List.Pairwise.filterMap _ ?_ jV;intro a b D x U y I;simp only[Option.mem_def,Option.map_map,aR] at U I
 obtain⟨_,_,rfl⟩:=U;obtain⟨_,_,rfl⟩:=I;exact D
set_option tactic.hygienic true in
theorem ce1{t:SetTable}{led:Bool}(ht:Tidy t led):Tidy (relayAll t M n).2.1 led:=by
 unfold relayAll
 split
 ·rename_i q c e
  unfold SetTable.relaid at e;have:=Jw e;rw[ht.led] at this;dsimp only
  split
  ·exact this
  ·exact qp ht _
 ·exact qp ht _
section
variable{w:World}(knd:PySem.KeyKind prog w Int)
structure SetD(es:Array (Int×Value))(t:SetTable)(led:Bool)(ks:List Int):Prop where
 el:ElemsOf knd es.toList
 mem:∀ k,k∈ks↔∃ e∈es.toList,knd.is k e.2=true
 le:es.size<=ks.length
 fits:t.fits es.size=true
 td:Tidy t led
def v9(h:Heap)(a:Addr)(led:Bool)(ks:List Int):Prop:=
 ∃ o es ep t,h.get? a=some o/\o.ExactSet/\o.data=.set es ep t/\SetD knd es t led ks
variable{knd}{es es':Array (Int×Value)}{t t':SetTable}{led:Bool}{ks:List Int}{k:Int}{x:Value}{a:Addr}{o:Obj}{ep:Nat}
theorem SetD.relay(D:SetD knd es t led ks)(n:Nat):SetD knd (relayAll t es n).1 (relayAll t es n).2.1 led ks:=by
 have p:=relayAll_perm t es n;refine⟨D.el.perm p,λk=>(D.mem k).trans ⟨λq=>a7 q λe c h=>⟨e,p.mem_iff.mpr c,h⟩,λq=>a7 q λe c h=>⟨e,p.mem_iff.mp c,h⟩⟩,?_,relayAll_fits t es n,ce1 D.td⟩
 have:=D.le;rw[<- aJ] at this ⊢;rw[p.length_eq];exact this
theorem SetD.push(D:SetD knd es t led ks)(K:knd.is k x=true)(u:x.scannable=true):SetD knd (layNew t es (knd.hash k) x).1 (layNew t es (knd.hash k) x).2.1 led (k::ks):=by
 have p:=layNew_perm t es (knd.hash k) x;rw[gK] at p;refine⟨(D.el.push K u).perm p,λj=>⟨λq=>?_,λq=>a7 q λe c h=>?_⟩,?_,layNew_fits ..,bx5 D.td⟩
 ·refine(au.mp q).elim (λq=>⟨_,p.mem_iff.mpr (bk _ (.head _)),q▸K⟩) λq=>a7 ((D.mem j).mp q) λe c h=>⟨e,p.mem_iff.mpr (bu _ c),h⟩
 ·refine(aH.mp (p.mem_iff.mp c)).elim (λq=>.tail _ ((D.mem j).mpr ⟨e,q,h⟩)) λq=>?_
  rw[aA.mp q] at h;rw[knd.inj x j k h K];exact .head _
 ·rw[<- aJ,p.length_eq,aK,aJ];exact cU D.le
theorem SetD.had(D:SetD knd es t led ks)(h:∃ e∈es.toList,knd.is k e.2=true):SetD knd es t led (k::ks):=
 ⟨D.el,λj=>⟨λq=>(au.mp q).elim (λq=>q▸h) (D.mem j).mp,λq=>.tail _ ((D.mem j).mpr q)⟩,gM D.le,D.fits,D.td⟩
theorem SetD.off(D:SetD knd es t led ks)(b:Bool):SetD knd es (if b=true then t else{t with plain:=false}) led ks:=by
 cases b with
 | true=>exact D
 | false=>exact⟨D.el,D.mem,D.le,SetTable.fits_plain_off D.fits,D.td.rise,D.td.nod,D.td.led⟩
theorem Eg(P:s.heap.get? a=some o)(X:o.ExactSet)(c:o.data=.set es ep t)(D:SetD knd es' t' led ks)(Y:ks.length<scanBound)
  (h:∀ h',Heap.SameBut a s.heap h'->v9 knd h' a led ks->Q () {s with heap:=h'}):wpAny (model prog w) A (storeSet a es' t') Q E s:=by
 refine wpAny_storeSet_of P c (h _ (Heap.SameBut.update s.heap a _) ⟨{o with data:=.set es' (ep+1) t'},es',_,t',?_,X,rfl,D⟩) (fits_of_scanBound (bA D.le Y))
 have:=dG (Obj.putSet es' t') P (by rw[putSet_of es' t' c];rfl)
 rw[putSet_of es' t' c] at this;exact this
theorem CG{u:Type}{c:Prop}[Decidable c]{m n:Sem u}{Q:u->Shared->Prop}(h:wpAny M A m Q E s)(h':wpAny M A n Q E s):wpAny M A (if c then m else n) Q E s:=by
 by_cases q:c
 ·rw[if_pos q];exact h
 ·rw[if_neg q];exact h'
theorem wP{u:Type}{c:Prop}[Decidable c]{m n:Sem u}{Q:u->Shared->Prop}(q:c)(h:wpAny M A m Q E s):wpAny M A (if c then m else n) Q E s:=by rw[if_pos q];exact h
theorem wN{u:Type}{c:Prop}[Decidable c]{m n:Sem u}{Q:u->Shared->Prop}(q:¬ c)(h:wpAny M A n Q E s):wpAny M A (if c then m else n) Q E s:=by rw[if_neg q];exact h
theorem vM{g:Bool->Sem Unit}(Ja:∀ (b:Bool) (sw:Shared) (y:Unit->Shared->Prop),y () sw->wpAny (model prog w) A (g b) y E sw)
  (P:s.heap.get? a=some o) (X:o.ExactSet) (I:o.data=.set es ep t) (D:SetD knd es' t' led ks) (Y:ks.length<scanBound) 
  (h:∀ h',Heap.SameBut a s.heap h'->v9 knd h' a led ks->R (some true) {s with heap:=h'}) :
  wpAny (model prog w) A (do
    storeSet a es' t'
    if (!L&&t'.tooFull)=true then do
      g (relayAll t' es' (SetTable.grown es'.size)).2.2
      storeSet a (relayAll t' es' (SetTable.grown es'.size)).1 (relayAll t' es' (SetTable.grown es'.size)).2.1
      pure (some true)
     else pure (some true)) R E s:=by
 exact lW (Eg P X I D Y λZa C Q=>CG (lW (Ja _ _ _ (T7 Q λK N N N u c q N=>lW (Eg (s:={s with heap:=Za}) u c q (D.relay _) Y λS H F=>lX (h S (C.trans H) F))))) (lX (h Za C Q)))
theorem HJ(K:knd.is k x=true)(F:x.scannable=true)(P:s.heap.get? a=some o)(X:o.ExactSet)(q:o.data=.set es ep t)(D:SetD knd es t led ks)(Y:ks.length+1<scanBound)
  (h:∀ b h',Heap.SameBut a s.heap h'->v9 knd h' a led (k::ks)->R (some b) {s with heap:=h'}):wpAny (model prog w) A (setAddByScan a x (knd.hash k) es t) R E s:=by
 unfold setAddByScan;refine lW (wpAny_rule (lW (wpAny_setScan_of K P q D.fits D.el ?_)));generalize Ja:List.findIdx? (λe=>knd.is k e.2) es.toList=r
 cases r with
 | some j=>
  exact lX (h false s.heap (Heap.SameBut.refl a s.heap) ⟨o,es,ep,t,P,X,q,D.had (a7 (List.findIdx?_eq_some_iff_getElem.mp Ja) λH I N=>⟨_,cT H,I⟩)⟩)
 | none=>
  have c:∀ (b:Bool) (O:Shared) (y:Unit->Shared->Prop),y () O->wpAny (model prog w) A (match b with | true=>rule "set.scan.the-table-gave-way" | false=>pure ()) y E O:=
   λb O y C=>by cases b<;>first | exact lX C | exact wpAny_rule C
  have u:=D.push K F;generalize layNew t es (knd.hash k) x=L at u ⊢;refine lW (c L.2.2.2 _ _ (CG (lW ?_) (lW (lX (vM c P X q (u.off true) Y (h true))))))
  ·rw[hashByValue_scannable 8 F]
   exact lX (vM c P X q (u.off _) Y (h true))
theorem v9.add(K:knd.is k x=true)(u:x.scannable=true)(P:v9 knd s.heap a led ks)(Y:ks.length+1<scanBound)
  (h:∀ b h',Heap.SameBut a s.heap h'->v9 knd h' a led (k::ks)->Q b {s with heap:=h'}):wpAny (model prog w) A (setAddHashed a x (knd.hash k)) Q E s:=by
 refine T7 P λo es ep t q X c D=>?_
 unfold setAddHashed setAddHashedIn;refine my (lW (wpAny_setState_of q c D.fits ?_));dsimp only
 rw[byScan_of u (bA D.le (Nat.lt_of_succ_lt Y)) D.el];simp only[↓reduceIte]
 exact lW (HJ K u q X c D Y λb h' Y y=>lX (h b h' Y y))
end
set_option maxHeartbeats 4000000
set_option maxRecDepth 100000
section
variable{w:World}{knd:PySem.KeyKind prog w Int}
noncomputable def r9(w:World):Bool:=!w.params.followText "set-order"
def ux(knd:PySem.KeyKind prog w Int)(v:Value)(k:Int):Prop:=knd.is k v=true/\v.scannable=true
theorem v9.keep{led:Bool}(x:v9 knd h a led ks)(k:∀ o,h.get? a=some o->h'.get? a=some o):v9 knd h' a led ks:=
 T7 x λo M ep t P r1 r2 U=>⟨o,M,ep,t,k o P,r1,r2,U⟩
theorem M2{id:String}{B:Builtin}{args:Args}(c:entryFor table id=some B)(q:plainId id=true)(h:wpAny (model prog w) A.in1 (B args) (λfin s'=>match fin with | .done f=>R (.ok f) s' | .again T=>T.quiet=true/\codeAny (model prog w) A T R s') (λe s'=>R (.error e) s') s) :
  codeAny (model prog w) A (.builtin id args) R s:=by
 refine codeAny_builtin c ?_;rw[Around.under_plainId q _];exact h
theorem YZ{G:Array GenState->Array GenState->Prop}{n:Nat}{P:Nat->Value->Prop}{St:Nat->Shared->Prop}(W:WalksS prog w A.in1 I fp q G n P St)(S:Addr)(x:S∉fp){led:Bool} 
  (val:Nat->Int) (T:∀ i v,P i v->ux knd v (val i)) (Y:n+1<scanBound) :
  ∀ (k i:Nat) (s:Shared) (C:List Int),n-i=k->i<=n->C.length<=i->St i s->v9 knd s.heap S led C->
   (∀ u,Moved (S::q) G s u->v9 knd u.heap S led (((jW i k).map val).reverseAux C)->R (.ok (.ret .none)) u)->
   codeAny (model prog w) A (.builtin "set.update.loop" ⟨[.ref S,.ref I],[]⟩) R s:=by
 have L:S∉q:=λh=>x (W.sub _ h)
 have U:∀ b∈q,b∈S::q:=λb Y=>bV _ Y
 intro k;induction k with
 | zero=>
  intro i s C K hi F c Za X;have hin:i=n:=xD K hi;subst hin;exact M2 PyProof.Rows.F.entry_set_update_loop PyProof.Rows.F.plain_set_update_loop (lW (m:=pyNext (.ref I)) (W.done s _ _ c λu Ja=>lX (X u (Ja.mono U) (Za.keep λo ho=>Ja.heap S _ L ho))))
 | succ k ih=>
  intro i s C K hi F c Za X;have D:i<n:=zA K;refine M2 PyProof.Rows.F.entry_set_update_loop PyProof.Rows.F.plain_set_update_loop (lW (m:=pyNext (.ref I)) (W.item i s _ _ D c λv u hP O Ja=>d5 (T i v hP) λy hsc=>?_))
  have hS':=Za.keep λo ho=>Ja.heap S _ L ho
  refine lW (m:=holding [v] (setAdd S v)) (my (my (lW (knd.pyHash (k:=val i) y (v9.add (s:={u with toks:=u.toks+1}) y hsc hS' (bA (cU (aj F hi)) Y) λb h' Q hS2=>?_)))))
  refine lX ⟨mD PyProof.Rows.F.plain_set_update_loop _,ih (i+1) _ (val i::C) (wA K) D (cU F) (W.frame _ u _ _ O (gn _) λb Y o e=>?_) hS2 λs'' M H=>?_⟩
  ·rw[Q.2 b (λh:b=S=>x (by rw[<- h];exact Y))];exact e
  ·refine X s'' (Moved.trans W.gtrans ((Ja.mono U).then_heap (gn _) λb o Y e=>?_) M) (by
    rw[List.range'_succ];exact H)
   rw[Q.2 b (λh:b=S=>Y (by rw[h];exact du))];exact e
theorem Zg(a:Value)
  (h:R (.ok (.ret (.ref s.heap.objs.size))) {s with heap:=s.heap.push {cls:=.type "set",dict:=none,data:=.set #[] 0 (.fresh 0 0 (r9 w))}}) :
  codeAny (model prog w) A (.call (.builtin "set.__new__") ⟨[.type "set",a],[]⟩) R s:=by
 refine codeAny_of_tree ?_;show wpAny _ A.in1 (do checkBuiltinCall "set.__new__" ⟨[.type "set",a],[]⟩;again (.builtin "set.__new__" ⟨[.type "set",a],[]⟩)) _ _ s
 refine lW (wpAny_of_eq (F.newCall_set_1 a) (lX ⟨mD F.plain_set_new _,M2 F.entry_set_new F.plain_set_new ?_⟩));unfold Builtin.«set.__new__» Builtin.Frozenset.newClass;have U:=sub_set_self;obtain⟨hp,g,d,tk,os⟩:=s;dsimp only
 wp_walk
 refine wpAny_askSetting (lX ?_);dsimp only
 simp only[newObj]
 exact lW (wpAny_alloc (lX (lX h)))
theorem bA4{led:Bool}(e:h.get? a=some {cls:=.type "set",dict:=none,data:=.set #[] 0 (.fresh 0 0 led)}):v9 knd h a led []:=
 ⟨_,#[],0,_,e,⟨rfl,rfl,rfl⟩,rfl,λe c=>(by cases c),λk=>⟨λq=>(by cases q),λq=>a7 q λe c N=>(by cases c)⟩,aV _,rfl,SM led⟩
theorem Hl(D:s.TypeIs (.ref S) "set")(h:∀ n,Q n s):wpAny (model prog w) A (typeNameOfCut 200 (.ref S)) Q E s:=by
 unfold typeNameOfCut
 wp_walk
 exact h _
theorem MF(D:s.TypeIs (.ref l) "list")(h:Q false s):wpAny (model prog w) A (Builtin.Frozenset.isAnySet (.ref l)) Q E s:=
 lW (mC D F.sub_list_set (mC D F.sub_list_frozenset h))
theorem Mp{items:Array Value}{led:Bool}{D:PySem.Fin->Shared->Prop}(I:A.handled=none)(x:s.heap.get? S=some {cls:=.type "set",dict:=none,data:=.set #[] 0 (.fresh 0 0 led)})(hl:s.heap.IsList l items)(C:l≠S)
  (q:∀ (i:Nat) (v:Value),items[i]?=some v->ux knd v (val i)) (Y:items.size+1<scanBound)
  (h:∀ (h':Heap) (tk:Nat),v9 knd h' S led (((jW 0 items.size).map val).reverseAux [])->(∀ b o,b≠S->s.heap.get? b=some o->h'.get? b=some o)->D (.done (.ret .none)) {s with heap:=h',toks:=tk}) :
  wpAny (model prog w) A (Builtin.«set.__init__» ⟨[.ref S,.ref l],[]⟩) D E s:=by
 have c:l≠s.heap.objs.size:=a7 hl λN e N=>bR (bC e)
 refine lW (m:=noKeywords "set" ⟨[.ref S,.ref l],[]⟩) (lX (lW (Hl ⟨_,x,rfl⟩ λn=>?_)))
 refine lW (lX (lW (lX (lW (lW (wpAny_setState_of x rfl rfl (lX (wN az ?_))))))));refine lW (lW (MF hl.typeIs (wN az (lW (wpAny_typeOf hl.typeIs (wN (by decide) (lW (wpAny_pyIter_list hl (lW (wpAny_runValue ?_))))))))))
 refine YZ ((Walks.list (A:=A.in1) I _ l c items).toS) S (by simp only[au,aA,bw,or_false,not_or];exact⟨bR (bC x),C.symm⟩) (led:=led) val q Y (items.size-0) 0 _ [] rfl (aY _) (aY _)
  ⟨⟨_,aO _ rfl,rfl,rfl⟩,(hl.push _)⟩ (bA4 (aD _ x)) λu F y=>?_
 refine lX ?_;have H:=h u.heap u.toks y λb o Y e=>F.heap b o (by simp only[au,aA,bw,or_false,not_or];exact⟨Y,bR (bC e)⟩) (aD _ e)
 rw[show({s with heap:=u.heap,toks:=u.toks}:Shared)=u from(Moved.eq_with F).symm] at H
 exact lX H
theorem bY2
  (K:A.handled=none) (hl:s.heap.IsList l items) (u:∀ (i:Nat) (v:Value),items[i]?=some v->ux knd v (val i)) (Y:items.size+1<scanBound)
  (h:∀ (h':Heap) (tk:Nat),v9 knd h' s.heap.objs.size (r9 w) (((jW 0 items.size).map val).reverseAux [])->
   (∀ b o,b<s.heap.objs.size->s.heap.get? b=some o->h'.get? b=some o)->Q (.ref s.heap.objs.size) {s with heap:=h',toks:=tk}) :
  wpAny (model prog w) A (call (.type "set") [.ref l]) Q E s:=by
 refine k9 F.called_set.mro λc P q=>?_
 have x:=F.called_set.made;have U:=F.called_set.sub;have Za:=F.called_set.notType;have S:=F.called_set.canCreate;have I:=F.typeCall_set_1 (.ref l);have Ja:=F.called_set.init.lookup;have H:=F.called_set.init.bind (.ref s.heap.objs.size);have y:l≠s.heap.objs.size:=bR (by refine a7 hl λN e N=>?_;exact bC e)
 have C:(s.heap.push {cls:=.type "set",dict:=none,data:=.set #[] 0 (.fresh 0 0 (r9 w))}).get? s.heap.objs.size=some {cls:=.type "set",dict:=none,data:=.set #[] 0 (.fresh 0 0 (r9 w))}:=aO _ rfl;have D:Shared.TypeIs {s with heap:=s.heap.push {cls:=.type "set",dict:=none,data:=.set #[] 0 (.fresh 0 0 (r9 w))}} (.ref s.heap.objs.size) "set":=⟨_,C,rfl⟩
 refine wpAny_call (codeAny_of_tree ?_);show wpAny _ _ (callAny (.type "set") _) _ _ _;refine lX ⟨Code.quiet_builtin _ (by k_extra"#"),codeAny_builtin F.entry_type_call ?_⟩
 rw[Around.under_plain (weight_type_call_type "set" [.ref l] []) rfl]
 repeat (any_goals (first | assumption | wp_step))
 refine Zg (.ref l) ?_
 repeat (any_goals (first | assumption | wp_step))
 refine codeAny_call_builtin F.called_set.init.plain F.entry_set_init (check_set_init_1 D (Mp (A:=A.in1.in1) K C (hl.push _) y u Y λh' tk L M=>?_))
 have O:=h h' tk L λb o Y e=>M b o (bR Y) (aD _ e)
 clear h K hl u Y y C D L M x q Za S I Ja H;dsimp only at O ⊢
 repeat (any_goals (first | assumption | wp_step))
end
theorem nO:Slot "set_iterator" "__next__" "set_iterator.__next__":=
 .of (owner:="set_iterator") (n:="__next__") (by rw[typeLookup_type,builtinLookup_eq_fast];kernel_rfl) (by k_extra"#") (by k_extra"#") (by k_extra"#")
  (by first | exact .inl (by k_extra"#") | exact .inr (by k_extra"#")) (by rw[isSubtype_type];kernel_rfl)
theorem Ru:entryFor table "set_iterator.__next__" = some Builtin.«set_iterator.__next__»:=entryFor_of_tree (by kernel_rfl)
section
variable{M:Model}
theorem bj1(w:n≠0)(h:∀ i u,i<n->Q i {s with drawn:=u}):wpAny M A (choose q n) Q E s:=λx p c=>by
 exact⟨w,h _ _ (Nat.mod_lt _ (Nat.pos_of_ne_zero w))⟩
theorem rM{q:Type}:∀ {l:List q} {i:Nat} (h:i<l.length),(l[i]::l.eraseIdx i).Perm l
 | x::c,0,h=>.refl _
 | x::c,i+1,h=>by
  simp only[List.getElem_cons_succ,List.eraseIdx_cons_succ]
  exact(List.Perm.swap _ _ _).trans ((rM (l:=c) (i:=i) (by simpa using h)).cons x)
theorem Wh{w:Type}(n:Nat):∀ (c:List w) {s:Shared} {Q:List w->Shared->Prop},c.length=n->(∀ l u,l.Perm c->Q l {s with drawn:=u})->wpAny M A (drawOrder n c) Q E s:=by
 induction n with
 | zero=>
  intro c s Q hl h;obtain rfl:=cY.mp hl;exact lX (a:=[]) (h [] s.drawn (.refl _))
 | succ n C=>
  intro c s Q hl h;cases c with
  | nil=>cases hl
  | cons x c=>
   show wpAny M A (choose .order (x::c).length >>= _) Q E s;refine lW (bj1 (ik _) λi u hi=>?_)
   rw[ak hi];exact lW (C ((x::c).eraseIdx i) (s:={s with drawn:=u}) (by rw[jf hi];exact Nat.succ.inj hl) λl q y=>lX (h _ q ((y.cons _).trans (rM hi))))
end
theorem ce6(fuel:Nat):∀ (k:Nat) (left:List α) (out:Array α),left.length=fuel->(pickOrder.go next fuel k left out).toList.Perm (out.toList++left):=by
 induction fuel with
 | zero=>
  intro k left out h;obtain rfl:=cY.mp h;rw[bI];exact .refl _
 | succ fuel ih=>
  intro k left out h;have hi:next k%left.length<left.length:=Nat.mod_lt _ (by rw[h];exact Nat.succ_pos _)
  have e:pickOrder.go next (fuel+1) k left out=pickOrder.go next fuel (k+1) (left.eraseIdx (next k%left.length)) (out.push left[next k%left.length]):=by
   show(match left[next k%left.length]? with | some x=>pickOrder.go next fuel (k+1) (left.eraseIdx (next k%left.length)) (out.push x) | none=>out)=_
   rw[ak hi]
  rw[e];refine(ih (k+1) _ _ (by rw[jf hi,h];rfl)).trans ?_
  rw[gK,bH];exact List.Perm.append_left _ (rM hi)
theorem cx8(next:Nat->Nat)(xs:Array α):(pickOrder next xs).toList.Perm xs.toList:=by
 have:=ce6 (next:=next) xs.size 0 xs.toList #[] (by simp)
 simpa[pickOrder] using this
noncomputable def A2(fst:Value)(i:Nat)(a:Addr)(n ep:Nat):Obj:={cls:=.type "set_iterator",data:=.fields #[fst,rawInt i,.ref a,rawInt n,rawInt ep]}
theorem Gr(a:Value):argsOk "set_iterator.__next__" ⟨[a],[]⟩:=by unfold argsOk;kernel_rfl
def bz0(I a:Addr)(i ep:Int)(fst:Value):Sem PySem.Fin:=match fst with
 | .int slot _=>do
  match <- setNext a slot.toNat i.toNat ep.toNat with
  | some (x,next)=>
   setField (.ref I) 0 (rawInt next)
   setField (.ref I) 1 (rawInt (i+1))
   ret x
  | none=>setField (.ref I) 2 .none;raiseNew (<- newExc (.type "StopIteration") [])
 | _=>do
  let some places <- seqItems? fst | unsupported "internal:set_iterator"
  match places[i.toNat]? with
  | some (.int place _)=>
   let x <- setNextDrawn a place.toNat ep.toNat
   setField (.ref I) 1 (rawInt (i+1))
   ret x
  | some _=>unsupported "internal:set_iterator"
  | none=>setField (.ref I) 0 (rawInt 0);setField (.ref I) 2 .none;raiseNew (<- newExc (.type "StopIteration") [])
section
variable{w:World}{I a:Addr}{o:Obj}{es:Array (Int×Value)}{ep i:Nat}{t:SetTable}{fst:Value}{Q:Option Value->Shared->Prop}
theorem pQ(hI:s.heap.get? I=some (A2 fst i a es.size ep))(ha:s.heap.get? a=some o)(hd:o.data=.set es ep t)(hf:t.fits es.size=true)
  (h:wpAny (model prog w) A.in1 (bz0 I a i ep fst) (λfin s'=>∃ x,fin=.done (.ret x)/\Q (some x) s') (λe s'=>s'.TypeIs e "StopIteration"/\Q none s') s) :
  wpAny (model prog w) A (pyNext (.ref I)) Q E s:=by
 have hT:s.TypeIs (.ref I) "set_iterator":=⟨_,hI,rfl⟩;have hb:wpAny (model prog w) A.in1 (Builtin.«set_iterator.__next__» ⟨[.ref I],[]⟩) (λfin s'=>∃ x,fin=.done (.ret x)/\Q (some x) s') (λe s'=>s'.TypeIs e "StopIteration"/\Q none s') s:=
  lW (m:=slotArgs "__next__" 0 ⟨[.ref I],[]⟩) (lX (lW (wpAny_fieldsOf hI rfl (lW (wpAny_setEntries_of ha hd hf (wN (by simp) h))))))
 exact lW (wpAny_attempt (wpAny_callSpecial?_slot (name:=aa "__next__") hT nO (wpAny_call_entry nO hT Ru (lY hb (λfin s' q=>a7 q λx e q=>⟨x,e,lX q⟩) λe s' q=>lW (mC q.1 isSubtype_stop (lX q.2))) (Gr _))))
theorem ba3{Q:Value->Shared->Prop}(M:s.heap.get? a=some o)(c:o.data=.set es ep t)(T:t.fits es.size=true)(U:es[p]?=some (Za,x))(h:Q x s):wpAny (model prog w) A (setNextDrawn a p ep) Q E s:=by
 refine lW (wpAny_setState_of M c T (wN (by simp) ?_))
 rw[U];exact lX h
theorem bQ5{ps:List Nat}(hI:s.heap.get? I=some (A2 (.ref tp) i a es.size ep))
  (ha:s.heap.get? a=some o) (hd:o.data=.set es ep t) (hf:t.fits es.size=true) (htp:s.heap.get? tp=some {cls:=.type "tuple",data:=.seq (ps.map fun(k:Nat)=>rawInt k).toArray})
  (hp:ps[i]?=some p) (hx:es[p]?=some (h1,x))
  (hQ:∀ h',h'.get? I=some (A2 (.ref tp) (i+1) a es.size ep)->Heap.SameBut I s.heap h'->Q (some x) {s with heap:=h'}):wpAny (model prog w) A (pyNext (.ref I)) Q E s:=by
 refine pQ hI ha hd hf (lW (wpAny_seqItems htp rfl ?_));have hps:((ps.map fun(k:Nat)=>rawInt k).toArray)[((i:Int)).toNat]?=some (rawInt p):=by
  simp[hp]
 dsimp only
 rw[hps];exact lW (ba3 (p:=p) ha hd hf hx (lW (wpAny_setField_rec hI (by simp) λh' hI' hs'=>lX ⟨_,rfl,hQ h' hI' hs'⟩)))
theorem Fd{nx:Nat}(hI:s.heap.get? I=some (A2 (rawInt slot) i a es.size ep))
  (ha:s.heap.get? a=some o) (hd:o.data=.set es ep t) (hf:t.fits es.size=true)
  (hn:∀ (Q':Option (Value×Nat)->Shared->Prop) (E':Value->Shared->Prop),Q' (some (x,nx)) s->wpAny (model prog w) A.in1 (setNext a slot i ep) Q' E' s)
  (hQ:∀ h',h'.get? I=some (A2 (rawInt nx) (i+1) a es.size ep)->Heap.SameBut I s.heap h'->Q (some x) {s with heap:=h'}):wpAny (model prog w) A (pyNext (.ref I)) Q E s:=
 pQ hI ha hd hf (lW (hn _ _ (lW (wpAny_setField_rec hI (by simp) λh' hI' hs'=>lW (wpAny_setField_rec (s:={s with heap:=h'}) hI' (by simp) λh'' hI'' hs''=>lX ⟨_,rfl,hQ h'' hI'' (hs'.trans hs'')⟩)))))
theorem Qg(q:A.handled=none){Q:PySem.Fin->Shared->Prop}(h:∀ (h':Heap) (e:Addr) (o:Obj),(∀ b c,s.heap.get? b=some c->h'.get? b=some c)->h'.get? e=some o->o.cls=.type "StopIteration"->E (.ref e) {s with heap:=h'}) :
  wpAny (model prog w) A (do raiseNew (<- newExc (.type "StopIteration") [])) Q E s:=by
 show wpAny _ _ (newExc (.type "StopIteration") [] >>= _) _ _ _;refine lW ?_;simp only[newExc,newTuple]
 refine lW (mj ?_ (by size_fits))
 refine lW (m:=firstArgMember _ _) (wpAny_of_eq (a:=Value.none) (by first | rfl | (simp only[firstArgMember];rfl)) ?_)
 refine mj ?_ (by size_fits)
 unfold raiseNew;refine lW (wpAny_handled ?_);rw[q];exact lW (lX (wpAny_throw (h _ _ _ (λb o e=>aD _ (aD _ e)) (aO _ rfl) rfl)))
theorem DR{R:PySem.Fin->Shared->Prop}(y:A.handled=none)(C:Heap.SameBut I s.heap L)(u:∀ h',Heap.ExtBut I s.heap h'->Q none {s with heap:=h'}) :
  wpAny (model prog w) A.in1 (do raiseNew (<- newExc (.type "StopIteration") [])) R (λe c=>c.TypeIs e "StopIteration"/\Q none c) {s with heap:=L}:=
 Qg (A:=A.in1) y λh' e F U x O=>⟨⟨F,x,O⟩,u h' λb D Y q=>U b D ((C.2 b Y).trans q)⟩
theorem Gg(hh:A.handled=none)(hI:s.heap.get? I=some (A2 (rawInt slot) i a es.size ep))(ha:s.heap.get? a=some o)(hd:o.data=.set es ep t)(hf:t.fits es.size=true)
  (hn:∀ (Q':Option (Value×Nat)->Shared->Prop) (E':Value->Shared->Prop),Q' none s->wpAny (model prog w) A.in1 (setNext a slot i ep) Q' E' s)
  (hQ:∀ h',Heap.ExtBut I s.heap h'->Q none {s with heap:=h'}):wpAny (model prog w) A (pyNext (.ref I)) Q E s:=
 pQ hI ha hd hf (lW (hn _ _ (lW (wpAny_setField_rec hI (by simp) λh' hI' hs'=>DR (s:=s) hh hs' hQ))))
theorem ZZ{ps:Array Value}(hh:A.handled=none)(hI:s.heap.get? I=some (A2 (.ref tp) i a es.size ep))(ha:s.heap.get? a=some o)(hd:o.data=.set es ep t)(hf:t.fits es.size=true)
  (htp:s.heap.get? tp=some {cls:=.type "tuple",data:=.seq ps}) (hps:ps.size<=i)
  (hQ:∀ h',Heap.ExtBut I s.heap h'->Q none {s with heap:=h'}):wpAny (model prog w) A (pyNext (.ref I)) Q E s:=by
 refine pQ hI ha hd hf (lW (wpAny_seqItems htp rfl ?_));dsimp only
 rw[show ps[((i:Int)).toNat]?=none by simp;exact hps]
 exact lW (wpAny_setField_rec hI (by simp) λh' hI' hs'=>lW (wpAny_setField_rec (s:={s with heap:=h'}) hI' (by simp) λh'' hI'' hs''=>DR (s:=s) hh (hs'.trans hs'') hQ))
end
theorem Tq:entryFor table "set.__iter__" = some Builtin.«frozenset.__iter__»:=
 entryFor_alias (id':="frozenset.__iter__") (by kernel_rfl) rfl (by k_extra"#") (by kernel_rfl)
theorem vU:Slot "set_iterator" "__iter__" "set_iterator.__iter__":=
 .of (owner:="set_iterator") (n:="__iter__") (by rw[typeLookup_type,builtinLookup_eq_fast];kernel_rfl) (by k_extra"#") (by k_extra"#") (by k_extra"#")
  (by first | exact .inl (by k_extra"#") | exact .inr (by k_extra"#")) (by rw[isSubtype_type];kernel_rfl)
theorem TQ:entryFor table "set_iterator.__iter__" = some Builtin.«dict_keyiterator.__iter__»:=
 entryFor_alias (id':="dict_keyiterator.__iter__") (by kernel_rfl) rfl (by k_extra"#") (by kernel_rfl)
theorem cb9(a:Value):argsOk "set_iterator.__iter__" ⟨[a],[]⟩:=by unfold argsOk;kernel_rfl
section
variable{w:World}{I a:Addr}{o:Obj}{es:Array (Int×Value)}{ep i:Nat}{t:SetTable}
theorem ph(h:Q (!r9 w) s):wpAny (model prog w) A setsByText Q E s:=by
 unfold setsByText;refine lW (wpAny_askSetting (lX ?_));unfold r9 at h;rw[lO] at h;exact h
theorem xd(h:r9 w=false):(!r9 w)=true:=by rw[h];rfl
theorem bo1(h:r9 w=true):¬ (!r9 w)=true:=by rw[h];exact az
theorem Xa(c:r9 w=false)(M:s.heap.get? a=some o)(q:o.data=.set es ep t)(T:t.fits es.size=true)(h:Q (pickOrder (w.params.setOrder a ep) es) s):wpAny (model prog w) A (setWalk a) Q E s:=
 lW (wpAny_setState_of M q T (lW (ph (wP (xd c) (lW (wpAny_askSetting (lX h)))))))
theorem BW(c:r9 w=false)(M:s.heap.get? a=some o)(q:o.data=.set es ep t)(T:t.fits es.size=true)
  (h:Q (((pickOrder (w.params.setOrder a ep) es)[i]?).map λe=>(e.2,slot)) s):wpAny (model prog w) A (setNext a slot i ep) Q E s:=
 lW (wpAny_setState_of M q T (lW (ph (wP (xd c) (wN (by simp) (lW (Xa c M q T (lX h))))))))
theorem Ca(T:t.fits es.size=true):t.place.size=es.size:=by
 unfold SetTable.fits at T;exact beq_iff_eq.mp (bF.mp T).1
theorem Df(c:r9 w=true)(M:s.heap.get? a=some o)(q:o.data=.set es ep t)(T:t.fits es.size=true)
  (R:Tidy t true) (P:(!t.plain&&decide (es.size > 1))=false) (u:SetTable.below t.place slot=i)
  (h:Q (match es[i]?,t.place[i]? with | some (_,x),some j=>some (x,j+1) | _,_=>none) s):wpAny (model prog w) A (setNext a slot i ep) Q E s:=by
 refine lW (wpAny_setState_of M q T (lW (ph (wN (bo1 c) (wN (λe=>az (P.symm.trans e)) (lW (wN (by rw[R.led];exact az) (lX (lX ?_)))))))))
 rw[u];exact h
end
def X2:Array GenState->Array GenState->Prop:=λa b=>b=a
def S6(I a:Addr)(o:Obj)(n ep:Nat)(X:List (Addr×Obj))(C:Nat->Value->Prop)(i:Nat)(s:Shared):Prop:=
 s.heap.get? a=some o/\(∀ p∈X,s.heap.get? p.1=some p.2)/\∃ c,C i c/\s.heap.get? I=some (A2 c i a n ep)
section
variable{w:World}{I a:Addr}{o:Obj}{es:Array (Int×Value)}{ep:Nat}{t:SetTable}
theorem Ig(c:s.heap.get? I=some o)(O:o.cls=.type "set_iterator")(h:Q (.ref I) s):wpAny (model prog w) A (pyIter (.ref I)) Q E s:=by
 have D:s.TypeIs (.ref I) "set_iterator":=⟨_,c,O⟩;refine wpAny_pyIter_slot D vU (wpAny_call_entry vU D TQ ?_ (cb9 _));show wpAny _ _ (ret (.ref I)) _ _ s;exact lX ⟨_,rfl,"set_iterator",_,D,nO.lookup,h⟩
theorem S6.el{X:List (Addr×Obj)}(h:S6 I a o n ep X C i s){P:Prop}(k:s.heap.get? a=some o->(∀ p∈X,s.heap.get? p.1=some p.2)->∀ c,C i c->s.heap.get? I=some (A2 c i a n ep)->P):P:=by
 obtain⟨Za,S,c,O,L⟩:=h;exact k Za S c O L
theorem rD{L:List Value}(X:List (Addr×Obj))(C:Nat->Value->Prop)(hIa:I≠a)(hX:∀ p∈X,p.1≠I)
  (item:∀ (i:Nat) (s:Shared) (fst:Value) (x:Value) (Q:Option Value->Shared->Prop) (E:Value->Shared->Prop),L[i]?=some x->C i fst->s.heap.get? I=some (A2 fst i a es.size ep)->s.heap.get? a=some o->(∀ p∈X,s.heap.get? p.1=some p.2)->
   (∀ h' fst',C (i+1) fst'->h'.get? I=some (A2 fst' (i+1) a es.size ep)->Heap.SameBut I s.heap h'->Q (some x) {s with heap:=h'})->wpAny (model prog w) A (pyNext (.ref I)) Q E s)
  (done:∀ (s:Shared) (fst:Value) (Q:Option Value->Shared->Prop) (E:Value->Shared->Prop),C L.length fst->s.heap.get? I=some (A2 fst L.length a es.size ep)->s.heap.get? a=some o->(∀ p∈X,s.heap.get? p.1=some p.2)->
   (∀ h',Heap.ExtBut I s.heap h'->Q none {s with heap:=h'})->wpAny (model prog w) A (pyNext (.ref I)) Q E s) :
  WalksS prog w A I (I::a::X.map (·.1)) [I] X2 L.length (λi v=>L[i]?=some v) (S6 I a o es.size ep X C) where
 sub:=λb hb=>by rw[aA.mp hb];exact .head _
 grefl:=λN=>rfl
 gtrans:=λN N N x y=>y.trans x
 frame:=λi s h' tk p0 N hk=>p0.el λh1 h2 fst hc h3=>⟨hk a (.tail _ (.head _)) _ h1,λp hp=>hk p.1 (.tail _ (.tail _ (aM.mpr ⟨p,hp,rfl⟩))) _ (h2 p hp),fst,hc,hk I (.head _) _ h3⟩
 item:=λi s Q E hi p0 hQ=>p0.el λh1 h2 fst hc h3=>item i s fst L[i] Q E (ak hi) hc h3 h1 h2 λh' fst' hc' h3' hs=>
  hQ _ _ (ak hi) ⟨(hs.2 a hIa.symm).trans h1,λp hp=>(hs.2 p.1 (hX p hp)).trans (h2 p hp),fst',hc',h3'⟩ ⟨λb ob hb e=>(hs.2 b λq=>hb (aA.mpr q)).trans e,rfl,rfl,rfl,aV _⟩
 done:=λs Q E p0 hQ=>p0.el λh1 h2 fst hc h3=>done s fst Q E hc h3 h1 h2 λh' hs=>hQ _ ⟨λb ob hb e=>hs b ob (λq=>hb (aA.mpr q)) e,rfl,rfl,rfl,aV _⟩
 self:=λi s Q E p0 hQ=>p0.el λh1 h2 fst hc h3=>Ig h3 rfl hQ
theorem zH{u c:Type}{xs:Array (u×c)}{i:Nat}{x:c}(h:(xs.toList.map (·.2))[i]?=some x):∃ y,xs[i]?=some (y,x):=by
 rw[aB,aU] at h;exact a7 (aR.mp h) λp q e=>⟨p.1,by rw[q,<- e]⟩
theorem Bf{q c:Type}{xs:Array (q×c)}:xs[(xs.toList.map (·.2)).length]?=none:=by
 rw[aq,aJ];exact gU (aV _)
def C0(_:Nat)(c:Value):Prop:=c=rawInt (0:Nat)
def CT(t:SetTable)(i:Nat)(q:Value):Prop:=∃ c:Nat,q=rawInt c/\SetTable.below t.place c=i
def CP(q:Addr)(_:Nat)(c:Value):Prop:=c=.ref q
theorem Px(P:A.handled=none)(D:I≠a)(c:r9 w=false)(q:o.data=.set es ep t)(T:t.fits es.size=true) :
  WalksS prog w A I [I,a] [I] X2 ((pickOrder (w.params.setOrder a ep) es).toList.map (·.2)).length (λi v=>((pickOrder (w.params.setOrder a ep) es).toList.map (·.2))[i]?=some v) (S6 I a o es.size ep [] C0):=
 rD [] C0 D (λN h=>by cases h)
  (λi s u x Q E U O L Za N F=>by
   subst O;exact d4 (zH U) λy R=>Fd (slot:=0) (nx:=0) L Za q T (λK Ja H=>BW c Za q T (by rw[R];exact H)) λM C S=>F M _ rfl C S)
  (λs u Q E O L Za N F=>by
   subst O;exact Gg P L Za q T (λK Ja H=>BW c Za q T (by rw[Bf];exact H)) F)
theorem ce9(X:A.handled=none)(F:I≠a)(c:r9 w=true)(R:Tidy t true)(P:(!t.plain&&decide (es.size > 1))=false)(q:o.data=.set es ep t)(T:t.fits es.size=true) :
  WalksS prog w A I [I,a] [I] X2 (es.toList.map (·.2)).length (λi v=>(es.toList.map (·.2))[i]?=some v) (S6 I a o es.size ep [] (CT t)):=
 rD [] (CT t) F (λN h=>by cases h)
  (λi s u x Q E hx O L Za N H=>a7 O λslot e Y=>by
   subst e;refine d4 (zH hx) λy Ja=>?_
   have C:=cj (rE (Ca T) (cP.mp Ja).1);exact Fd (slot:=slot) (nx:=t.place[i]'(rE (Ca T) (cP.mp Ja).1)+1) L Za q T (λS M K=>Df c Za q T R P Y (by rw[Ja,C];exact K)) λU D hs=>H U _ ⟨_,rfl,Gu R.rise C⟩ D hs)
  (λs u Q E O L Za N H=>a7 O λslot e Y=>by
   subst e;exact Gg X L Za q T (λS M K=>Df c Za q T R P Y (by rw[Bf];exact K)) H)
theorem Hy{ps:List Nat}{L:List Value}(R:A.handled=none)(F:I≠a)(c:q≠I)(K:o.data=.set es ep t)(T:t.fits es.size=true)(hL:L.length=ps.length)
  (Ja:∀ (i:Nat) x,L[i]?=some x->∃ p Y,ps[i]?=some p/\es[p]?=some (Y,x)) :
  WalksS prog w A I [I,a,q] [I] X2 L.length (λi v=>L[i]?=some v)
   (S6 I a o es.size ep [(q,({cls:=.type "tuple",data:=.seq (ps.map fun(k:Nat)=>rawInt k).toArray}:Obj))] (CP q)):=
 rD [(q,{cls:=.type "tuple",data:=.seq (ps.map fun(k:Nat)=>rawInt k).toArray})] (CP q) F (λp h=>by rw[aA.mp h];exact c)
  (λi s u x Q E U O D Za S H=>by
   subst O;exact i6 (Ja i x U) λp Y M C=>bQ5 D Za K T (S _ (.head _)) M C λP y X=>H P _ rfl y X)
  (λs u Q E O D Za S H=>by
   subst O;exact ZZ R D Za K T (S _ (.head _)) (by rw[hL,cZ,aq];exact aV _) H)
end
theorem uE{c:Type}{P:c->Prop}{x y:c}(h:P x)(k:P y):∀ b∈[x,y],P b:=λb q=>(au.mp q).elim (λe=>e▸h) λq=>aA.mp q▸k
theorem Pg{c:Type}{P:c->Prop}{x y z:c}(h:P x)(k:P y)(l:P z):∀ b∈[x,y,z],P b:=λb q=>(au.mp q).elim (λe=>e▸h) λq=>uE k l b q
theorem oN{h:Heap}(c:h.objs.size<=n):h.get? n=none:=by
 cases q:h.get? n with
 | none=>rfl
 | some o=>exact absurd (bC q) (dJ.mpr c)
noncomputable def tuO(ps:List Nat):Obj:={cls:=.type "tuple",data:=.seq (ps.map fun(k:Nat)=>rawInt k).toArray}
noncomputable def atE(M:Array (Int×Value))(p:Nat):Value:=((M[p]?).map (·.2)).getD .none
theorem WX(h:p<M.size):∃ Y,M[p]?=some (Y,atE M p):=⟨M[p].1,by unfold atE;rw[cj h];rfl⟩
theorem RN(M:Array (Int×Value)):(bh M.size).map (atE M)=M.toList.map (·.2):=by
 k_extra"dc"
 simp at h1
 simp[atE,h1]
section
variable{w:World}
theorem Cq{o:Obj}{M:Array (Int×Value)}{ep:Nat}{t:SetTable}{first:Value}{Q:Value->Shared->Prop}(u:s.heap.get? a=some o)(x:o.data=.set M ep t)(T:t.fits M.size=true)(h:Q (.ref s.heap.objs.size) {s with heap:=s.heap.push (A2 first 0 a M.size ep)}) :
  wpAny (model prog w) A (do ret (<- newFields "set_iterator" [first,rawInt 0,.ref a,rawInt M.size,rawInt (<- setEpoch a)])) (λfin q=>∃ v,fin=.done (.ret v)/\∃ c r,q.TypeIs v c/\typeLookup (.type c) (aa "__next__")=pure (some r)/\Q v q) E s:=
 lW (wpAny_setEpoch_of u x T (lW (mj (lX ⟨_,rfl,"set_iterator",_,⟨_,aO _ rfl,rfl⟩,nO.lookup,h⟩) (by size_fits))))
theorem bu6{o:Obj}{M:Array (Int×Value)}{ep:Nat}{t:SetTable}(C:s.heap.get? a=some o)(hc:o.cls=.type "set")(H:o.data=.set M ep t)(T:t.fits M.size=true)(R:Tidy t (r9 w))(hz:M.size<=4096)
  (h:∀ (I:Addr) (Ja:List Addr) (L:List Value) (Za:Nat->Shared->Prop) (h':Heap) (u:Drawn),(∀ K:Around,K.handled=none->WalksS prog w K I Ja [I] X2 L.length (λi v=>L[i]?=some v) Za)->Za 0 {s with heap:=h',drawn:=u}->
   (∀ b U,s.heap.get? b=some U->h'.get? b=some U)->s.heap.get? I=none->L.Perm (M.toList.map (·.2))->(∀ b∈Ja,b=a∨s.heap.get? b=none)->Q (.ref I) {s with heap:=h',drawn:=u}) :
  wpAny (model prog w) A (pyIter (.ref a)) Q E s:=by
 have hT:s.TypeIs (.ref a) "set":=⟨_,C,hc⟩;have S:=dF (bC C);have q:s.heap.get? s.heap.objs.size=none:=oN (aV _);refine wpAny_pyIter_slot hT F.slot_set_iter (wpAny_call_entry F.slot_set_iter hT Tq ?_ (F.args_set_iter_1 _));refine lW (m:=Builtin.Frozenset.slot0 "__iter__" ⟨[.ref a],[]⟩) (lX (lW (lW (wpAny_setEntries_of C H T (lX (lW (lW (wpAny_setState_of C H T (lW (ph (lX ?_)))))))))));by_cases P:(!!r9 w&&(!t.plain&&decide (M.size > 1)))=true
 ·refine wP P (lW (Wh M.size (bh M.size) bO λps u X=>lW (mj (Cq (s:={s with heap:=s.heap.push (tuO ps),drawn:=u}) (aD _ C) H T ?_) ?_)))
  ·have y:(s.heap.push (tuO ps)).objs.size=s.heap.objs.size+1:=km ..
   have D:s.heap.get? (s.heap.push (tuO ps)).objs.size=none:=oN (by rw[y];exact gn _)
   exact h _ [(s.heap.push (tuO ps)).objs.size,a,s.heap.objs.size] (ps.map (atE M)) _ _ u
    (λK O=>Hy (ps:=ps) O (dF (by rw[y];exact jk (bC C))) (bR (by rw[y];exact dO _)) H T (aq _) λi x hx=>by
     rw[aB] at hx;exact a7 (aR.mp hx) λp hq e=>d4 (WX (bY.mp (X.mem_iff.mp (aL hq)))) λh0 e1=>⟨p,h0,hq,by rw[e1,e]⟩)
    ⟨aD _ (aD _ C),λp Y=>by rw[aA.mp Y];exact aD _ (aO _ rfl),_,rfl,aO _ rfl⟩
    (λb U e=>aD _ (aD _ e)) D ((X.map _).trans (by rw[RN])) (Pg (.inr D) (.inl rfl) (.inr q))
  ·show(ps.map fun(k:Nat)=>rawInt k).toArray.size<=sizeLine
   rw[cZ,aq,X.length_eq,bO];exact aj hz (by decide)
 ·refine wN P (lW (lX (Cq C H T ?_)))
  cases c:r9 w with
  | false=>
   exact h _ [_,a] ((pickOrder (w.params.setOrder a ep) M).toList.map (·.2)) _ _ s.drawn (λK O=>Px O S c H T) ⟨aD _ C,λz_ h=>(by cases h),_,rfl,aO _ rfl⟩ (λb U e=>aD _ e) q ((cx8 _ _).map _) (uE (.inr q) (.inl rfl))
  | true=>
   rw[c] at P R;exact h _ [_,a] (M.toList.map (·.2)) _ _ s.drawn (λK O=>ce9 O S c R (Bool.eq_false_iff.mpr P) H T) ⟨aD _ C,λz_ h=>(by cases h),_,⟨0,rfl,ca8 R.rise⟩,aO _ rfl⟩ (λb U e=>aD _ e) q (.refl _) (uE (.inr q) (.inl rfl))
theorem ZP{a:Addr}{id T n:String}{q:PUnit->Sem Bool}{u:Sem PUnit}{Q:Bool->Shared->Prop}(x:splitId id=some (T,n))(D:s.TypeIs (.ref a) T)(U:isSubtype (.type T) (.type T)=pure true)(h:wpAny (model prog w) A (q ⟨⟩) Q E s) :
  wpAny (model prog w) A (match splitId id with | some (c,_)=>(do if !(<- isInstance (.ref a) (.type c)) then(u >>= q) else q ⟨⟩) | _=>q ⟨⟩) Q E s:=by
 rw[x];exact lW (mC D U (wN (by decide) h))
theorem ch3{a:Addr}{Q:Bool->Shared->Prop}(D:s.TypeIs (.ref a) "set")(h:Q false s):wpAny (model prog w) A (Builtin.List.listLengthHint (.ref a)) Q E s:=by
 refine lW (m:=specialOf (.ref a) "__len__") (wpAny_specialOf D F.slot_set_len.lookup (ZP (id:="set.__len__") (n:="__len__") (by kernel_rfl) D sub_set_self ?_))
 exact wP (by k_extra"#") (lW (wpAny_typeOf D (lX h)))
theorem Jq(h:ItemsOf (λi v=>L[i]?=some v) acc L.length):acc.toList=L:=by
 refine gO λi=>?_
 rw[aU];cases q:acc[i]? with
 | none=>rw[cO (aj (aG h.1.symm) (Array.getElem?_eq_none_iff.mp q))]
 | some v=>rw[h.2 i v q]
theorem Zi{ep:Nat}(hh:A.handled=none)(ha:s.heap.get? a=some o)(O:o.cls=.type "set")(hd:o.data=.set M ep t)(hf:t.fits M.size=true)(ht:Tidy t (r9 w))(hz:M.size<=4096)
  (h:∀ (vs:List Value) (s':Shared),vs.Perm (M.toList.map (·.2))->(∀ b u,s.heap.get? b=some u->s'.heap.get? b=some u)->s'.gens=s.gens->s'.os=s.os->Q vs s') :
  wpAny (model prog w) A (collect (.ref a)) Q E s:=by
 have Ja:=bC ha;have D:=aD {cls:=.type "list",data:=.seq ([]:List Value).toArray} ha;have hT:Shared.TypeIs {s with heap:=s.heap.push {cls:=.type "list",data:=.seq ([]:List Value).toArray}} (.ref a) "set":=⟨_,D,O⟩
 have h1:Builtin.List.listSameRef (.ref s.heap.objs.size) (.ref a)=false:=by
  simp[Builtin.List.listSameRef];exact dF Ja
 refine lW (wpAny_runValue (M2 F.entry_proto_collect F.plain_proto_collect (lW (mj (lX ⟨mD F.plain_list_iadd _,M2 F.entry_list_iadd F.plain_list_iadd ?_⟩)))));refine lW (m:=typeOf (.ref a)) (wpAny_typeOf hT (wN (by rw[h1];decide) (lW (bu6 D O hd hf ht hz λI fp L St R dr W c K U hp T=>lW (my (ch3 ⟨_,K _ _ D,O⟩ (wP (by k_extra"#") (lW (wpAny_rule (lW ?_))))))))))
 have H:R.get? s.heap.objs.size=some {cls:=.type "list",data:=.seq ([]:List Value).toArray}:=K _ _ (aO _ rfl);have x:s.heap.objs.size∉fp:=λq=>(T _ q).elim (dF Ja) λe=>by
  rw[aO _ rfl] at e;exact C9 e
 have y:=dG (bW (·.push Value.none)) H rfl
 have P:∀ b u,b≠s.heap.objs.size->R.get? b=some u->((R.update s.heap.objs.size (bW (·.push Value.none))).update s.heap.objs.size (bW (·.pop))).get? b=some u:=
  λb u Y e=>(gQ _ _ (Ne.symm Y)).trans ((gQ _ _ (Ne.symm Y)).trans e)
 have Za:=W A.in1 hh;refine lW (wpAny_updateSeq H rfl (wpAny_updateSeq (hz:=by seq_fits) y rfl (lX ⟨mD F.plain_extend_loop _,codeAny_extend_loopS Za (by rw[hp.length_eq,aq,aJ];exact aj hz (by decide)) _ x _ L.length 0 _ _ _ rfl (aY _)
  (Za.frame 0 ({s with heap:=R,drawn:=dr}:Shared) _ s.toks c (aV _) λb Y u e=>P b u (λq=>x (q▸Y)) e) (dG (bW (·.pop)) y rfl) (ItemsOf.nil _) λs' acc' c' X S C=>?_⟩)))
 refine lW (wpAny_load S (lX (h _ s' (by rw[Jq C];exact hp) (λb u e=>?_) X.gens X.os)))
 have Y:b≠s.heap.objs.size:=bR (bC e);refine X.heap b u (λq=>(au.mp q).elim Y λq=>?_) (P b u Y (K b u (aD _ e)))
 rw[aA.mp q] at e;exact f8 (U.symm.trans (aD _ e))
end
open PySem PyProof.Rows
structure Ext(s s':Shared):Prop where
 heap:∀ b o,s.heap.get? b=some o->s'.heap.get? b=some o
 gens:s'.gens=s.gens
 os:s'.os=s.os
theorem Ext.trans(x:Ext a b)(y:Ext b c):Ext a c:=⟨λb o e=>y.heap b o (x.heap b o e),y.gens.trans x.gens,y.os.trans x.os⟩
theorem Ext.step{fr own:Addr->Prop}{Z:Hp}{s s':Shared}(x:Ext s s'):Step fr own Z Z s s':=
 ⟨⟨x.gens,x.os⟩,λb o e=>⟨o,x.heap b o e,id⟩,λb o e N N=>⟨o,x.heap b o e,.inl rfl⟩,λb N N e=>x.heap b _ e,λN N N h=>h⟩
theorem Sim.no(x:Sim g Z h)(O:h.get? c=none):Z c=none:=by
 cases q:Z c with
 | none=>rfl
 | some o=>
  k_extra"cE"
  rw[O] at e;exact f8 e
theorem U6{g F A env J Z}(I:Inv g F A env J Z s)(x:Ext s s')(O:s.heap.get? c=none)(r:u5 g s'.heap c o)(h:∀ a,Z a=none->Q (.ref a) (upd Z a o)):l8 g F A env J Z s Q (.ref c) s':=by
 have mO:=x.step (fr:=inF A) (own:=f5) (Z:=Z);have D:Step (inF A) f5 Z (upd Z c o) s s':=⟨mO.same,mO.dom,mO.keep,mO.tups,λb o e C=>by rw[e8 _ _ (λq=>by rw[q,O] at e;exact f8 e)];exact C⟩
 refine(λz_ u=>u _ _ (.ref _) (I.keep D ⟨(I.sim.grow x.heap).stays,λa U e=>?_⟩) D (h _ (I.sim.no O)))
 by_cases ha:a=c
 ·clear D;clear u;subst ha
  rw[d6] at e;refine d7 e▸⟨r,?_⟩;cases q:g.h₀.get? a with
  | none=>rfl
  | some o=>have:=I.sim.stays _ _ q;rw[O] at this;exact f8 this
 ·rw[e8 _ _ ha] at e
  exact(I.sim.grow x.heap).objs a U e
theorem K6{g F A env J Z}(I:Inv g F A env J Z s)(x:Ext s s')(O:s.heap.get? c=none)
  (P:s'.heap.get? c=some {cls:=.type "list",data:=.seq vs n}) (r:d9 s'.heap vs.toList l) (h:∀ a,Z a=none->Q (.ref a) (upd Z a (.L l))):l8 g F A env J Z s Q (.ref c) s':=U6 (o:=.L l) I x O ⟨vs,⟨n,P⟩,r⟩ h
theorem bt6{a b:Str}(h:a.cps.toList=b.cps.toList):a=b:=by
 cases a;cases b;simp at h;rw[h]
section
variable{w:World}
theorem yG(h:wpAny (model prog w) A.in1 (collect x) (λvs s'=>∃ q,IntsAre vs q/\vs.length<64/\∀ (out:Array Value) (c:List Int),IntsAre out.toList c->c.Perm q->
   Q (.ref s'.heap.objs.size) {s' with heap:=sortedHeap (s'.heap.push (seqObj "list" vs.toArray 0)) s'.heap.objs.size vs out}) E s):wpAny (model prog w) A (call (.builtin "sorted") [x]) Q E s:=by
 k_extra"aQ";refine lW (m:=checkCount "sorted" 1 1 _) (lX (lW (lY h (λvs s' L=>f6 L λq u M y=>lW (wpAny_newList ?_ (aj (bN M) (by decide)))) λN N e=>e)))
 k_extra"ah";exact lW (my (wpAny_call_entry slot_list_sort ⟨_,hoL,rfl⟩ entry_list_sort (list_sort_tree hoL u M λout c a b N=>⟨_,rfl,lX ⟨_,rfl,y out c a b⟩⟩) (args_list_sort _)))
theorem oW{vs:List Value}{out:Array Value}:Ext s {s with heap:=sortedHeap (s.heap.push (seqObj "list" vs.toArray 0)) s.heap.objs.size vs out}:=
 ⟨λb o e=>by
  have c:=bC e;rw[sortedHeap_old (bR c) (by rw[size_push'];exact jk c)]
  exact aD _ e,rfl,rfl⟩
end
theorem Rv{E:List Int}(r:d9 h vs (E.map .int)):IntsAre vs E:=by
 induction E generalizing vs with
 | nil=>rw[r.ofNil];exact .nil
 | cons n E c=>refine g8 r.ofCons λv M qa r1 r2=>?_;subst qa;refine d4 r1.ofInt λt qa=>?_;subst qa;exact .cons n t (c r2)
theorem wO{E:List Int}(r:IntsAre vs E):d9 h vs (E.map .int):=by
 induction r with
 | nil=>exact .nil
 | cons n t r ih=>exact .cons (.int n t) ih
theorem Rx{E:List Int}(r:IntsAre vs E):vs.length=E.length:=by
 induction r with
 | nil=>rfl
 | cons _ _ _ c=>rw[bD,bD,c]
section
variable{g:G}{Q:V->Hp->Prop}
theorem Hg{E:List Int}(C:Z a=some (.L (E.map .int)))(u:E.length<64)(h:∀ b (q:List Int),Z b=none->q.Perm E->Q (.ref b) (upd Z b (.L (q.map .int)))) :
  Cl g F (.builtin "sorted") [.ref a] J Z Q X:=(λA env s vs I rs=>by
  k_extra"cN";subst qa
  k_extra"br";refine a7 (I.sim.objs a _ C).1 λitems y r=>?_
  have hl:s.heap.IsList a items.toList.toArray:=by rw[iK];exact y.isList
  have x:items.toList.length<64:=by rw[r.length,aq];exact u
  refine yG (collect_list hl ⟨_,Rv r,x,λout q D c=>?_⟩ (aj (bN x) (by decide)))
  have x1:Ext s {s with heap:=(s.heap.push (seqObj "list" #[] 0)).update s.heap.objs.size (bW (· ++ items.toList.toArray))}:=⟨λb o e=>by
   k_extra"am"
   rw[iT _ _ _ _ (bR (bC e))];exact aD _ e,rfl,rfl⟩
  refine d4 (sortedHeap_at (out:=out) (vs:=items.toList) (n:=0) (h:=(((s.heap.push (seqObj "list" #[] 0)).update s.heap.objs.size (bW (· ++ items.toList.toArray))).push (seqObj "list" items.toList.toArray 0)))
   (a:=((s.heap.push (seqObj "list" #[] 0)).update s.heap.objs.size (bW (· ++ items.toList.toArray))).objs.size) (aO _ rfl)) λe w=>?_
  refine K6 I (x1.trans oW) (oN ?_) w (wO D) λb Y=>h b q Y c
  rw[Heap.size_update,size_push'];exact gn _)
theorem VN:(∀ v∈vs,∃ k,(intKind prog w).is k v=true)->∃ E,IntsAre vs E/\∀ k,k∈E↔∃ v∈vs,(intKind prog w).is k v=true:=by
 induction vs with
 | nil=>exact λN=>⟨[],.nil,λk=>⟨λq=>(by cases q),λq=>a7 q λN q N=>(by cases q)⟩⟩
 | cons v vs u=>
  intro h;refine a7 (u λv c=>h v (.tail _ c)) λE Za S=>d4 (h v (.head _)) λk K=>?_
  refine d4 (Value.isInt_shape K) λt Ja=>?_;subst Ja
  refine⟨k::E,.cons k t Za,λj=>⟨λq=>(au.mp q).elim (λq=>⟨_,.head _,q▸K⟩) λq=>a7 ((S j).mp q) λv a b=>⟨v,.tail _ a,b⟩,λq=>a7 q λv a b=>(au.mp a).elim (λe=>?_) λa=>.tail _ ((S j).mpr ⟨v,a,b⟩)⟩⟩
  rw[e] at b;rw[(intKind prog w).inj _ j k b K];exact .head _
theorem bO6(I:Inv g F A env J Z s)(hh:A.handled=none)(x:Ext s sw)(K:v9 (intKind g.prog g.w) sw.heap c (r9 g.w) ks)(M:ks.length<64)
  (h:∀ b (l:List Int),Z b=none->l.length<=ks.length->(∀ y,y∈l↔y∈ks)->Q (.ref b) (upd Z b (.L (l.map .int)))) :
  wpAny (model g.prog g.w) A (call (.builtin "sorted") [.ref c]) (l8 g F A env J Z s Q) E sw:=by
 refine T7 K λo es ep t ho O hd D=>?_
 have T:=bA D.le M;refine yG (Zi (A:=A.in1) hh ho O.1 hd D.fits D.td (aj (bN T) (by decide)) λvs R L H hg u=>?_)
 have S:vs.length=es.size:=by rw[L.length_eq,aq,aJ]
 refine a7 (VN (prog:=g.prog) (w:=g.w) λv S=>a7 (aM.mp (L.mem_iff.mp S)) λe C q=>a7 (D.el e C).1 λk hk N=>⟨k,q▸hk⟩) λns U hm=>⟨ns,U,S▸T,λout P Za Ja=>?_⟩
 refine d4 (sortedHeap_at (out:=out) (vs:=vs) (n:=0) (h:=R.heap.push (seqObj "list" vs.toArray 0)) (a:=R.heap.objs.size) (aO _ rfl)) λe C=>?_
 have Y:=x.trans ⟨H,hg,u⟩;refine K6 I (Y.trans oW) ?_ C (wO Za) λb hb=>h b P hb ?_ λy=>Ja.mem_iff.trans ((hm y).trans (Iff.trans ⟨λq=>?_,λq=>?_⟩ (D.mem y).symm))
 ·cases q:s.heap.get? R.heap.objs.size with
  | none=>rfl
  | some o=>have:=Y.heap _ _ q;rw[u7] at this;exact f8 this
 ·rw[Ja.length_eq,<- Rx U,S];exact D.le
 ·exact a7 q λv S k=>a7 (aM.mp (L.mem_iff.mp S)) λe C q=>⟨e,C,q▸k⟩
 ·exact a7 q λe C k=>⟨_,L.mem_iff.mpr (aM.mpr ⟨e,C,rfl⟩),k⟩
end
theorem aY8(l:List Int):(jW 0 l.length).map (λi=>(l[i]?).getD 0)=l:=by
 k_extra"dc"
 simp[h2]
theorem d9.at_int{ks:List Int}(r:d9 h vs (ks.map .int)){i:Nat}{v:Value}(S:vs[i]?=some v):∃ t,v=.int ((ks[i]?).getD 0) t:=by
 have hi:i<ks.length:=by have:=(aF.mp S).1;rw[r.length,aq] at this;exact this
 refine a7 (r.get (x:=.int ks[i]) (by rw[aB,ak hi];rfl)) λq e c=>?_
 rw[S] at e;replace e:=d7 e;rw[<- e] at c;rw[ak hi];exact c.ofInt
section
variable{g:G}{Q:V->Hp->Prop}
theorem Ie{a:Addr}{ks:List Int}(I:Inv g F A env J Z s)(w:A.handled=none)(c:Z a=some (.L (ks.map .int)))(T:ks.length<64)
  (h:∀ b (l:List Int),Z b=none->l.length<=ks.length->(∀ y,y∈l↔y∈ks)->Q (.ref b) (upd Z b (.L (l.map .int)))) :
  wpAny (model g.prog g.w) A (call (.type "set") [.ref a]) (λv P=>wpAny (model g.prog g.w) A (call (.builtin "sorted") [v]) (l8 g F A env J Z s Q) E P) E s:=by
 refine a7 ((I.sim.objs a _ c).1) λitems M r=>?_
 have u:items.size=ks.length:=by rw[<- aJ,r.length,aq]
 refine bY2 (knd:=intKind g.prog g.w) (val:=λi=>(ks[i]?).getD 0) w M.isList (λi v S=>d4 (r.at_int (by rw[aU];exact S)) λt e=>?_) (by rw[u];exact eX (ju T) (by decide)) λx D q K=>?_
 ·subst e;exact⟨by simp[intKind,Value.isInt],rfl⟩
 rw[u,aY8,<- List.reverse] at q;refine bO6 I w (sw:={s with heap:=x,toks:=D}) ⟨λb o e=>K b o (bC e) e,rfl,rfl⟩ q (by rw[iU];exact T) λb l Y H C=>h b l Y (aj H (aG iU)) λy=>(C y).trans List.mem_reverse
theorem Vg{K M:Pos}{e:Expr}(Y:Bi g xs (.builtin "sorted"))(H:Bi g O (.type "set"))(hk:F.sc.names.lookup xs=some .globalImplicit)(C:F.sc.names.lookup O=some .globalImplicit)(hq:F.q=true)
  (h:Ev g F e J Z (λv u=>∃ (a:Addr) (l:List Int),v=.ref a/\u a=some (.L (l.map .int))/\l.length<64/\∀ b (L:List Int),u b=none->L.length<=l.length->(∀ y,y∈L↔y∈l)->Q (.ref b) (upd u b (.L (L.map .int)))) X)
  (hd:(xs==("__debug__" : Str))=false) (R:(O==("__debug__" : Str))=false) (he:∀ env,mF [e] env=[(false,eval e env)]) :
  Ev g F (.Call (.Name xs np) [.Call (.Name O K) [e] [] M] [] pos) J Z Q X:=(λA env s I=>by
 have w:Evs g F [e] J Z (λvs u=>∃ v,vs=[v]/\∃ (a:Addr) (l:List Int),v=.ref a/\u a=some (.L (l.map .int))/\l.length<64/\∀ b (L:List Int),u b=none->L.length<=l.length->(∀ y,y∈L↔y∈l)->Q (.ref b) (upd u b (.L (L.map .int)))) X:=
  V2 (h.mono λv u S=>qm ⟨v,rfl,S⟩) (by intros;rfl) he
 have x:wpAny (model g.prog g.w) A (eval (.Call (.Name O K) [e] [] M) env) (λv P=>wpAny (model g.prog g.w) A (call (.builtin "sorted") [v]) (l8 g F A env J Z s Q) (j6 g F A env J Z s X) P) (j6 g F A env J Z s X) s:=by
  refine lZ (I.nB C R H.1 H.2 (d5 (w A env s M I) λhw U=>callWith_excType U (s7 U (lY hw (λvs sw Za=>?_) λN N p=>p))))
  refine Za _ ?_;clear Za;rintro Vs u rs E D q;obtain⟨v,rfl,a,l,rfl,c,T,hQ⟩:=q;k_extra"cN";subst qa
  k_extra"br";exact lY (Ie E (I.quiet hq) c T hQ) (λv P S=>lY S (λN N p=>p.step D) λN N p=>p) λN N p=>p
 refine lZ (I.nB hk hd Y.1 Y.2 (cJ rfl (s7 rfl ?_)));exact wpAny_items_cons (lY x (λv P Ja=>wpAny_items_nil Ja) λN N p=>p) rfl)
end
open PySem PySem.Builtin.Str PySem.StrLaws
noncomputable def H3(x:Str):List V:=x.cps.toList.map λc=>.str ⟨#[c]⟩
theorem yK{x:Str}{i:Nat}(h:(H3 x)[i]?=some v):∃ c,x.cps[i]?=some c/\v=.str ⟨#[c]⟩:=by
 unfold H3 at h;rw[aB,aU] at h;cases q:x.cps[i]? with
 | none=>rw[q] at h;cases h
 | some c=>rw[q] at h;exact⟨c,rfl,(d7 h).symm⟩
theorem ud(x:Str):(H3 x).length=x.cps.size:=by simp[H3]
theorem VR{g:G}(y:A.handled=none){I:Addr}:IterOK g A I (H3 x) (λN=>True) (λi h=>h.IsStrIter I "str_ascii_iterator" x t i) where
 frame:=λi h h' st k N=>by refine a7 st λo ho r=>?_;exact⟨o,k _ ho,r⟩
 obj:=λi h st=>by refine f6 st λo ho N hd=>?_;exact⟨o,_,ho,hd⟩
 item:=λi v Z s Q E hx st sm hK hQ=>by
  refine a7 (yK hx) λc hc qa=>?_;subst qa
  exact wpAny_pyNext_ascii_item st hc λh' q u=>hQ _ h' _ (.str _ _) q u.extBut
 done:=λZ s Q E st sm hK hQ=>by
  rw[ud] at st;exact wpAny_pyNext_ascii_end y st (by simp) λh' w=>hQ h' s.toks w
 self:=λi s Q E st hQ=>wpAny_pyIter_striter_ascii st hQ
 plain:=λi s v elts k pos Q E st hQ=>by refine f6 st λo ho hc hd=>?_;exact T6 ho hc hd (by decide) hQ
theorem RT{g:G}(y:A.handled=none){I:Addr}:IterOK g A I (H3 x) (λN=>True) (λi h=>h.IsStrIter I "str_iterator" x t i) where
 frame:=λi h h' st k N=>by refine a7 st λo ho r=>?_;exact⟨o,k _ ho,r⟩
 obj:=λi h st=>by refine f6 st λo ho N hd=>?_;exact⟨o,_,ho,hd⟩
 item:=λi v Z s Q E hx st sm hK hQ=>by
  refine a7 (yK hx) λc hc qa=>?_;subst qa
  exact wpAny_pyNext_wide_item st hc λh' q u=>hQ _ h' _ (.str _ _) q u.extBut
 done:=λZ s Q E st sm hK hQ=>by
  rw[ud] at st;exact wpAny_pyNext_wide_end y st (by simp) λh' w=>hQ h' s.toks w
 self:=λi s Q E st hQ=>wpAny_pyIter_striter_wide st hQ
 plain:=λi s v elts k pos Q E st hQ=>by refine f6 st λo ho hc hd=>?_;exact T6 ho hc hd (by decide) hQ
def sls(y c:Option Int)(x:Str):Str:=⟨(slc y c x.cps.toList).toArray⟩
theorem oG(n:Nat)(i:Int):max 0 (min (if i<0 then i+n else i) (n:Int))=((clipAt n i:Nat):Int):=(clipAt_cast n i).symm
theorem pJ(n:Nat)(i:Int):clipAt n i<=n:=by
 have:=clipAt_cast n i;exact bj.mp (this▸Int.max_le.mpr ⟨bB n,Int.min_le_right _ _⟩)
theorem be8(lo hi:Option Int)(n:Nat):Builtin.Str.strSliceIndices lo hi 1 n=Builtin.Str.strSliceIndices (some ((lo.elim 0 (clipAt n):Nat):Int)) (some ((hi.elim n (clipAt n):Nat):Int)) 1 n:=by
 have e:∀ k:Nat,k<=n->max (0:Int) (min (if ((k:Int)<0) then(k:Int)+n else k) (n:Int))=k:=λk hk=>by
  rw[if_neg (vp)];lia
 k_extra"aC"
 have h1:(lo.elim 0 (clipAt n))<=n:=by cases lo with | none=>exact aY _ | some i=>exact pJ n i
 have h2:(hi.elim n (clipAt n))<=n:=by cases hi with | none=>exact aV _ | some i=>exact pJ n i
 rw[e _ h1,e _ h2];cases lo with
 | none=>
  cases hi with
  | none=>rfl
  | some j=>simp only[jT];rw[oG n j];rfl
 | some i=>
  cases hi with
  | none=>simp only[jT];rw[oG n i]
  | some j=>simp only[jT];rw[oG n i,oG n j]
set_option tactic.hygienic true in
theorem bJ5(x:Str)(y c:Option Int):sliceText x y c=sls y c x:=by
 have Za:(y.elim 0 (clipAt x.length))<=x.length:=by cases y with | none=>exact aY _ | some i=>exact pJ _ i
 have S:(c.elim x.length (clipAt x.length))<=x.length:=by cases c with | none=>exact aV _ | some i=>exact pJ _ i
 have u:x.cps.toList.length=x.length:=by simp[Str.length]
 have O:sliceText x y c=sliceText x (some ((y.elim 0 (clipAt x.length):Nat):Int)) (some ((c.elim x.length (clipAt x.length):Nat):Int)):=by
  unfold sliceText;rw[<- be8 y c x.length]
 rw[O];unfold sls slc;rw[u];generalize y.elim 0 (clipAt x.length)=a at *;generalize c.elim x.length (clipAt x.length)=b at *;by_cases q:a<=b
 ·exact sliceText_nat x q S
 ·have E:Builtin.Str.strSliceIndices (some (a:Int)) (some (b:Int)) 1 x.length=[]:=by
   k_extra"aC"
   rw[if_neg (vp),if_neg (vp)];have C:=Nt (Za);have A:max (0:Int) (min (b:Int) (x.length:Int))=b:=by lia
   rw[C,A];unfold sliceRange;simp
   lia
  unfold sliceText;rw[E];have w:b-a=0:=kI (bN (Nat.lt_of_not_le q));rw[w,List.take_zero]
  split
  ·rename_i h
   exfalso;simp at h
   exact aZ9 Za q h
  ·rfl
section
variable{g:G}{Q:V->Hp->Prop}
theorem vq{A env s}{c:Nat}(I:Inv g F A env J Z s)(h:Q (.str x) Z):l8 g F A env J Z s Q (.str x tk) {s with toks:=c}:=
 (λz_ q=>q _ Z (.str _ _) (I.keep Step.toks I.sim) Step.toks h)
theorem U1(k:∀ A env s u v,Inv g F A env J Z s->wpAny (model g.prog g.w) A (t (.str a u) (.str b v)) (l8 g F A env J Z s Q) (j6 g F A env J Z s X) s):mK g F t (.str a) (.str b) J Z Q X:=(λA env s x y I O Za=>by
 refine d4 O.ofStr λu Ja=>?_;subst Ja;refine d4 Za.ofStr λv Ja=>?_;subst Ja;exact k A env s u v I)
theorem Nh(hz:x.length+y.length<=10000)(h:Q (.str (x++y)) Z):mK g F (binaryOp .Add) (.str x) (.str y) J Z Q X:=U1 λA R s N N I=>SB.add (λN N=>vq I h) (aj hz (by decide))
theorem eq_str(h:Q (.bool (x==y)) Z):mK g F (compareOp .Eq) (.str x) (.str y) J Z Q X:=U1 λA R s N N I=>PyProof.Rows.eq_str (n6 I h)
theorem ne_str(h:Q (.bool (x != y)) Z):mK g F (compareOp .NotEq) (.str x) (.str y) J Z Q X:=U1 λA R s N N I=>PyProof.Rows.ne_str (n6 I h)
theorem Oz(h:Q (.bool (Txt.contains x y)) Z):mK g F (compareOp .In) (.str y) (.str x) J Z Q X:=U1 λA R s N N I=>SB.contains (n6 I h)
theorem bR8(h:Q (.bool (!Txt.contains x y)) Z):mK g F (compareOp .NotIn) (.str y) (.str x) J Z Q X:=U1 λA R s N N I=>SB.notContains (n6 I h)
theorem Ri(c:(x.length:Int)<2 ^ 63)(h:Q (.int x.length) Z):Cl g F (.builtin "len") [.str x] J Z Q X:=(λA R s q I r=>by
 refine a7 r.one λz_ qa r0=>?_;subst qa;refine d4 r0.ofStr λz_ qa=>?_;subst qa;exact PyProof.Rows.len_str (by exact Lg c) (A5 I h))
theorem Nb(Y:0<=k)(q:k<2 ^ 63)(U:x.cps[k.toNat]?=some c)(h:Q (.str ⟨#[c]⟩) Z):Itm g F (.str x) (.int k) J Z Q X:=(λA R s v y I O ry=>by
 refine d4 O.ofStr λz_ qa=>?_;subst qa;k_extra"ac"
 exact⟨"str",_,typeIs_str _ _ _,PySem.F.slot_str_getitem.lookup,P.getItem_str (by simp;exact⟨aW (by decide) Y,q⟩) (at_nonneg Y U) (vq I h)⟩)
theorem bn7(Y:0<=k)(Za:k<x.length)(hz:k<2 ^ 63)(h:∀ c,x.cps[k.toNat]?=some c->Q (.str ⟨#[c]⟩) Z):Itm g F (.str x) (.int k) J Z Q X:=by
 exact d4 (some_at Y Za) λc O=>Nb Y hz O (h c O)
theorem aY9(hz:x.length<=10000)(h:Q (.str (sls y w x)) Z):Slc g F (.str x) y w J Z Q X:=(λA R s v K c Ja I r D E q=>by
 refine d4 r.ofStr λt qa=>?_;clear r;subst qa
 obtain⟨l,hl,el⟩:∃ l:Option (Int×Tok),c=partValue l/\l.map (·.1)=y:=by
  cases E with
  | none=>exact⟨none,rfl,rfl⟩
  | int i t=>exact⟨some (i,t),rfl,rfl⟩
 obtain⟨u,L,C⟩:∃ u:Option (Int×Tok),Ja=partValue u/\u.map (·.1)=w:=by
  cases q with
  | none=>exact⟨none,rfl,rfl⟩
  | int i t=>exact⟨some (i,t),rfl,rfl⟩
 clear E;clear q;subst hl L;refine f6 D λo P O H=>?_
 have e:=bJ5 x y w;refine⟨"str",_,typeIs_str _ _ _,PySem.F.slot_str_getitem.lookup,wpAny_getItem_str_slice (l:=l) (u:=u) (st:=none) ⟨o,P,O,H⟩ rfl (post_val_or_str ⟨?_,λM k=>?_⟩)⟩
 ·clear D;subst el C
  exact aj (Txt.slice_le x _ _) (aj hz (by decide))
 ·subst el C
  exact vq I (by rw[<- e] at h;exact h))
theorem JV(h:Q (.int (if b then 1 else 0)) Z):Cl g F (.type "int") [.bool b] J Z Q X:=(λA R s c I r=>by
 refine a7 r.one λz_ qa r0=>?_;subst qa;obtain rfl:=r0.ofBool;exact call_int_bool (A5 I h))
end
mutual
def dat:V->PyData
 | .none=>.none
 | .bool b=>.bool b
 | .int i=>.int i
 | .str x=>.str x
 | .tup l=>.tuple (g7 l)
 | .ref _=>.none
def g7:List V->List PyData
 | []=>[]
 | x::l=>dat x::g7 l
end
mutual
def flat:V->Bool
 | .none=>true
 | .bool _=>true
 | .int _=>true
 | .str x=>PyData.strOk x
 | .tup l=>flatL l
 | .ref _=>false
def flatL:List V->Bool
 | []=>true
 | x::l=>flat x&&flatL l
end
theorem Rep.reads(r:Rep h v a)(T:flat a=true):Reads h v (dat a) []:=
 V.rec (motive_1:=λa=>∀ v,Rep h v a->flat a=true->Reads h v (dat a) []) (motive_2:=λl=>∀ c,d9 h c l->flatL l=true->ReadsAll h c (g7 l) [])
  (λv r N=>by rw[r.ofNone];exact .none) (λb v r N=>by rw[r.ofBool];exact .bool b) (λi v r N=>by refine d4 r.ofInt λt qa=>?_;subst qa;exact .int i t) (λx v r N=>by refine d4 r.ofStr λt qa=>?_;subst qa;exact .str x t)
  (λl q v r T=>by refine j8 r.ofTup λa c n qa P r2=>?_;subst qa;exact .tuple P rfl rfl (q _ r2 T)) (λa v r T=>(az T).elim)
  (λc r N=>by rw[r.ofNil];exact .nil)
  (λx l U hl c r T=>by
   k_extra"Z";subst qa
   refine d5 (bF.mp T) λZa S=>?_
   exact .cons (as:=[]) (bs:=[]) (U _ r1 Za) (hl _ r2 S)) a v r T
theorem d9.reads(r:d9 h vs l)(T:flatL l=true):ReadsAll h vs (g7 l) []:=by
 induction l generalizing vs with
 | nil=>rw[r.ofNil];exact .nil
 | cons x l ih=>
  k_extra"Z";subst qa
  have c:=T;exact d5 (bF.mp c) λZa S=>.cons (as:=[]) (bs:=[]) (r1.reads Za) (ih r2 S)
theorem L3:flat a=true->(dat a).canLay0=true:=
 V.rec (motive_1:=λa=>flat a=true->(dat a).canLay0=true) (motive_2:=λl=>flatL l=true->PyData.canLayAll0 (g7 l)=true) (λN=>rfl) (λN N=>rfl) (λN N=>rfl) (λN h=>h) (λN c h=>c h) (λN h=>(az h).elim) (λN=>rfl)
  (λx l U hl h=>by
   refine d5 (bF.mp (show(flat x&&flatL l)=true from h)) λZa S=>?_
   show((dat x).canLay0&&PyData.canLayAll0 (g7 l))=true;rw[U Za,hl S];rfl) a
theorem G1(h:flatL l=true):PyData.canLayAll0 (g7 l)=true:=L3 (a:=.tup l) h
mutual
def H4:V->Bool
 | .none=>true
 | .int _=>true
 | .str _=>true
 | .tup l=>N3 l
 | _=>false
def N3:List V->Bool
 | []=>true
 | x::l=>H4 x&&N3 l
end
theorem Ci:H4 a=true->H4 b=true->(PyData.eqv (dat a) (dat b)=true↔a=b):=
 V.rec (motive_1:=λa=>∀ b,H4 a=true->H4 b=true->(PyData.eqv (dat a) (dat b)=true↔a=b)) (motive_2:=λl=>∀ k,N3 l=true->N3 k=true->(PyData.eqvAll (g7 l) (g7 k)=true↔l=k))
  (λb N hb=>by
   cases b with
   | none=>exact⟨λN=>rfl,λN=>rfl⟩
   | bool _=>exact(az hb).elim
   | ref _=>exact(az hb).elim
   | _=>exact⟨λh=>(az h).elim,λh=>(by cases h)⟩)
  (λN N ha N=>(az ha).elim)
  (λi b N hb=>by
   cases b with
   | int j=>exact⟨λh=>congrArg V.int (eq_of_beq h),λh=>beq_iff_eq.mpr (V.int.inj h)⟩
   | bool _=>exact(az hb).elim
   | ref _=>exact(az hb).elim
   | _=>exact⟨λh=>(az h).elim,λh=>(by cases h)⟩)
  (λi b N hb=>by
   cases b with
   | str j=>exact⟨λh=>congrArg V.str (eq_of_beq h),λh=>beq_iff_eq.mpr (V.str.inj h)⟩
   | bool _=>exact(az hb).elim
   | ref _=>exact(az hb).elim
   | _=>exact⟨λh=>(az h).elim,λh=>(by cases h)⟩)
  (λl c b ha hb=>by
   cases b with
   | tup k=>exact⟨λh=>congrArg V.tup ((c k ha hb).mp h),λh=>(c k ha hb).mpr (V.tup.inj h)⟩
   | bool _=>exact(az hb).elim
   | ref _=>exact(az hb).elim
   | _=>exact⟨λh=>(az h).elim,λh=>(by cases h)⟩)
  (λN N ha N=>(az ha).elim)
  (λk N N=>by
   cases k with
   | nil=>exact⟨λN=>rfl,λN=>rfl⟩
   | cons _ _=>exact⟨λh=>(az h).elim,λh=>(by cases h)⟩)
  (λx l U hl k ha hb=>by
   cases k with
   | nil=>exact⟨λh=>(az h).elim,λh=>(by cases h)⟩
   | cons y k=>
    refine d5 (bF.mp (show(H4 x&&N3 l)=true from ha)) λZa S=>d5 (bF.mp (show(H4 y&&N3 k)=true from hb)) λL q=>Iff.trans (show(PyData.eqv (dat x) (dat y)&&PyData.eqvAll (g7 l) (g7 k))=true↔_ from bF) ?_
    rw[U y Za L,hl k S q];exact⟨λh=>by rw[h.1,h.2],λh=>List.cons.inj h⟩) a b
theorem Xb(l:List V):g7 l=l.map dat:=by
 induction l with
 | nil=>rfl
 | cons x l c=>simp[g7,c]
def dep(a:V):Nat:=(dat a).depth
def depL(l:List V):Nat:=PyData.depthAll (g7 l)
section
variable{g:G}{Q:V->Hp->Prop}
theorem tU(M:flat a=true)(Y:flat b=true)(L:min (dep a) (dep b)<=8*F.d)(h:Q (.bool (PyData.eqv (dat a) (dat b))) Z):mK g F (compareOp .Eq) a b J Z Q X:=(λA R s x y I O Za=>
 SeqAt.compareEq_reads (O.reads M) (Za.reads Y) (L3 M) (L3 Y) (by have:=I.units;unfold dep at L;exact CN L this) (n6 I h))
theorem vg(M:flat a=true)(Y:flat b=true)(L:min (dep a) (dep b)<=8*F.d)(h:Q (.bool (!PyData.eqv (dat a) (dat b))) Z):mK g F (compareOp .NotEq) a b J Z Q X:=(λA R s x y I O Za=>
 SeqAt.compareNe_reads (O.reads M) (Za.reads Y) (L3 M) (L3 Y) (by have:=I.units;unfold dep at L;exact CN L this) (n6 I h))
theorem mU{A env s}(I:Inv g F A env J Z s)(C:Z a=some (.L l))(T:flatL l=true):Reads s.heap (.ref a) (.list (g7 l)) [a]:=by
 obtain⟨c,⟨n,P⟩,r⟩:=(I.sim.objs a _ C).1;exact .list P rfl rfl (r.reads T)
theorem bX8(M:Z a=some (.L l))(Y:Z b=some (.L k))(hl:flatL l=true)(K:flatL k=true)(L:min (depL l) (depL k)+1<=8*F.d)(h:Q (.bool (PyData.eqvAll (g7 l) (g7 k))) Z):mK g F (compareOp .Eq) (.ref a) (.ref b) J Z Q X:=(λA R s x y I rx ry=>by
 obtain rfl:=rx.ofRef;obtain rfl:=ry.ofRef;refine SeqAt.compareEq_reads (mU I M hl) (mU I Y K) (G1 hl) (G1 K) ?_ (n6 I h);have:=I.units;show A.units+min (PyData.depthAll (g7 l)+1) (PyData.depthAll (g7 k)+1)<cLine;unfold depL at L;exact Oj L this)
theorem Ke(M:Z a=some (.L l))(Y:Z b=some (.L k))(hl:flatL l=true)(K:flatL k=true)(L:min (depL l) (depL k)+1<=8*F.d)(h:Q (.bool (!PyData.eqvAll (g7 l) (g7 k))) Z):mK g F (compareOp .NotEq) (.ref a) (.ref b) J Z Q X:=(λA R s x y I rx ry=>by
 obtain rfl:=rx.ofRef;obtain rfl:=ry.ofRef;refine SeqAt.compareNe_reads (mU I M hl) (mU I Y K) (G1 hl) (G1 K) ?_ (n6 I h);have:=I.units;show A.units+min (PyData.depthAll (g7 l)+1) (PyData.depthAll (g7 k)+1)<cLine;rw[fV];exact bA (cM L _) I.units)
theorem Hv(M:Z a=some (.L l))(hl:flatL l=true)(U:flat x=true)(L:min (depL l) (dep x)+1<=8*F.d)(h:Q (.bool ((g7 l).any λy=>PyData.eqv y (dat x))) Z):mK g F (compareOp .In) x (.ref a) J Z Q X:=(λA R s u v I q rv=>by
 obtain rfl:=rv.ofRef;refine SeqAt.in_list_reads (mU I M hl) (q.reads U) (G1 hl) (L3 U) ?_ (n6 I h);have:=I.units;unfold depL dep at L;exact Az L this)
theorem Wr(M:Z a=some (.L l))(hl:flatL l=true)(U:flat x=true)(L:min (depL l) (dep x)+1<=8*F.d)(h:Q (.bool (!(g7 l).any λy=>PyData.eqv y (dat x))) Z):mK g F (compareOp .NotIn) x (.ref a) J Z Q X:=(λA R s u v I q rv=>by
 obtain rfl:=rv.ofRef;refine SeqAt.notIn_list_reads (mU I M hl) (q.reads U) (G1 hl) (L3 U) ?_ (n6 I h);have:=I.units;unfold depL dep at L;exact Az L this)
theorem JH(x:0<F.d)(h:Q (.bool (l.length==0)) Z):mK g F (compareOp .Eq) (.tup l) (.tup []) J Z Q X:=(λA R s u v I q c=>by
   refine j8 q.ofTup λa M n Ja Za r1=>?_;subst Ja
   refine j8 c.ofTup λb w m Ja S r2=>?_;subst Ja
   have E:M.size=l.length:=by rw[<- r1.length,aJ]
   have C:w.size=0:=by rw[<- aJ,r2.length];rfl
   refine SeqAt.eq_tupleAt (e:=λN=>true) ⟨_,Za,rfl,_,rfl⟩ ⟨_,S,rfl,_,rfl⟩ (jQ I.units) (λj N P=>by lia) ?_
   rw[C,E];simp only[Nat.min_zero,List.range_zero,List.all_nil,jg]
   exact n6 I h)
end
def isS(x:Str):Value->Bool
 | .str y _=>y==x
 | _=>false
theorem qZ{vs:List Value}{c:List Str}(r:d9 h vs (c.map .str)):(∀ y∈vs,∃ z t,y=.str z t)/\vs.any (isS x)=c.any (· == x):=by
 induction c generalizing vs with
 | nil=>rw[r.ofNil];exact⟨λy hy=>(nomatch hy),rfl⟩
 | cons n E q=>
  k_extra"Z";subst qa
  refine d4 r1.ofStr λt qa=>?_;subst qa
  refine d5 (q r2) λZa S=>⟨λy hy=>?_,by rw[List.any_cons,List.any_cons,S];rfl⟩
  rcases au.mp hy with rfl | hy
  ·exact⟨_,_,rfl⟩
  ·exact Za y hy
section
variable{g:G}{Q:V->Hp->Prop}
theorem uO{vs:Array Value}(h:∀ y∈vs.toList,∃ z t,y=.str z t):∀ y,y∈vs->SeqAt.EqAt A s y (.str x t) (isS x y):=λy I=>by
 obtain⟨z,u,rfl⟩:=h y (by simpa using I)
 exact λY w E Q c=>PyProof.Rows.eqBool_str c
theorem FW{c:List Str}(M:Z a=some (.L (c.map .str)))(h:Q (.bool (c.any (· == x))) Z):mK g F (compareOp .In) (.str x) (.ref a) J Z Q X:=(λA R s u v I ru rv=>by
 obtain rfl:=rv.ofRef;k_extra"bV"
 refine a7 ((I.sim.objs a _ M).1) λw q r=>d5 (qZ (x:=x) r) λZa h2=>SeqAt.in_listAt (isS x) q.isList (uO Za) ?_
 rw[<- jw,h2];exact n6 I h)
theorem Ry{c:List Str}(M:Z a=some (.L (c.map .str)))(h:Q (.bool (!c.any (· == x))) Z):mK g F (compareOp .NotIn) (.str x) (.ref a) J Z Q X:=(λA R s u v I ru rv=>by
 obtain rfl:=rv.ofRef;k_extra"bV"
 refine a7 ((I.sim.objs a _ M).1) λw q r=>d5 (qZ (x:=x) r) λZa h2=>SeqAt.notIn_listAt (isS x) q.isList (uO Za) ?_
 rw[<- jw,h2];exact n6 I h)
theorem ck0{q:List Str}(hl:l=q.map .str)(h:Q (.bool (q.any (· == x))) Z):mK g F (compareOp .In) (.str x) (.tup l) J Z Q X:=(λA R s u v I ru c=>by
  rw[hl] at c;k_extra"bV"
  refine j8 c.ofTup λa M n qa w r=>?_;subst qa
  refine d5 (qZ (x:=x) r) λZa h2=>SeqAt.in_tupleAt (isS x) ⟨_,w,rfl,_,rfl⟩ (uO Za) ?_
  rw[<- jw,h2];exact n6 I h)
end
def Gs(g:G)(x:Str)(y:Str):Prop:=∃ t,g.mg x=some (.str y t)
def Gd(g:G)(x:Str)(D:List (Str×Int)):Prop:=∃ d,g.mg x=some (.ref d)/\StrTab g.prog g.w g.h₀ d (D.map λp=>(.str p.1,.int p.2))
def Bc:Option Int->V
 | some i=>.int i
 | none=>.none
theorem Ra(D:List (Str×Int))(x:Str):PySem.Spec.lookup (.str x) (D.map λp=>(.str p.1,.int p.2))=(D.lookup x).map .int:=by
 induction D with
 | nil=>rfl
 | cons p D u=>
  show(if PySem.Spec.same (.str p.1) (.str x)=true then some (PyData.int p.2) else PySem.Spec.lookup (.str x) (D.map λp=>(.str p.1,.int p.2)))=_
  rw[PyProof.V.same_str,u,cD];by_cases h:p.1=x
  ·subst h;simp
  ·have c:=beq_eq_false_iff_ne.mpr (Ne.symm h)
   simp[h,c]
theorem HB(n:Nat):Builtin.Range.rangeSize 0 (n:Int) 1=n:=by
 have h:=zK 0 n;unfold Builtin.Range.rangeSize at h ⊢;simp only[show((1:Int) > 0)=True from eq_true (by decide),if_true] at h ⊢
 split
 ·simp
 ·lia
section
variable{g:G}{vs:List Str}{d:Nat}{q:Bool}{Q:V->Hp->Prop}
theorem bR5(T:Gs g x i)(K:sc.names.lookup x=some .globalImplicit)(c:(x==("__debug__" : Str))=false)(h:Q (.str i) Z):Ev g ⟨sc,vs,d,q⟩ (.Name x pos) J Z Q X:=
 by refine d4 T λt R=>?_;exact CX K R (λz_=>.str i t) h c
theorem cp5{D:List (Str×Int)}(P:Gd g x D)(hk:sc.names.lookup x=some .globalImplicit)(L:(x==("__debug__" : Str))=false)
  (h:Ev g ⟨sc,vs,d,q⟩ e J Z (λv c=>∃ y,v=.str y/\Q (Bc (D.lookup y)) c) X)
  (u:(H.endLine==pos.line)=true) (Ja:∀ env,attributeBase (.Name x O) (aa "get") env (eval (.Name x O) env)=eval (.Name x O) env)
  (U:∀ env,((backTo pos (mF [e] env)).all (λx=>!x.1)&&(backToKw pos (keywordEach [] env)).all (λx=>x.1.isSome)
   && decide ([e].length+([]:List Keyword).length+(if ([]:List Keyword).isEmpty then 0 else 1)<30))=true) (he:∀ env,mF [e] env=[(false,eval e env)]) :
  Ev g ⟨sc,vs,d,q⟩ (.Call (.Attribute (.Name x O) (aa "get") H) [e] [] pos) J Z Q X:=(λA env s I=>by
 refine a7 P λdd hm T=>?_
 have T':=T.keep I.sim.stays;have Y:s.TypeIs (.ref dd) "dict":=by obtain⟨lo,C,L,P⟩:=T';exact L.typeIs
 have R:∃ ob,s.heap.get? dd=some ob/\ob.dict=none:=by
  obtain⟨lo,C,L,P⟩:=T';exact j8 L.mapOf λo es ep ho hc N=>⟨o,ho,hc.2.1⟩
 refine wpAny_Call_method (Ja env) (U env) u PySem.F.plainAttrs_dict PySem.F.slot_dict_get PySem.F.type_dict_get
  (I.nG hk L hm ⟨Y,λb e=>by cases e;exact R,?_⟩)
 have w:Evs g ⟨sc,vs,d,q⟩ [e] J Z (λvs c=>∃ v,vs=[v]/\∃ y,v=.str y/\Q (Bc (D.lookup y)) c) X:=
  V2 (h.mono λv c S=>qm ⟨v,rfl,S⟩) (by intros;rfl) he
 refine d5 (w A env s pos I) λhw hp=>cJ hp (s7 hp (lY hw (λvs sw p0=>p0 _ ?_) λN N p=>p))
 clear p0;rintro Vs c rs E K hq;obtain⟨v,rfl,y,rfl,M⟩:=hq;k_extra"cN";clear rs;subst qa
 refine d4 r0.ofStr λN qa=>?_;clear r0;subst qa
 refine call_get1_strTab (T.keep E.sim.stays) λv S=>?_
 rw[Ra] at S;refine l8.step K ?_;cases hl:D.lookup y with
 | none=>
  rw[hl] at S M;obtain rfl:=PyProof.V.Flat.none_inv S;exact(λN Za=>Za .none c .none (E.keep Step.toks E.sim) Step.toks M)
 | some i=>
  rw[hl] at S M;refine d4 (PyProof.V.Flat.int_inv S) λt qa=>?_;clear S;subst qa
  exact(λN Za=>Za (.int i) c (.int _ _) (E.keep Step.toks E.sim) Step.toks M))
set_option tactic.hygienic true in
theorem RG(h:Q (.int (min a b)) Z):Cl g ⟨sc,vs,d,true⟩ (.builtin "min") [.int a,.int b] J Z Q X:=(λA R s w I r=>by
 refine g8 r.two λ_ _ Ja u c=>?_;subst Ja
 refine d4 u.ofInt λ_ Ja=>?_;subst Ja;refine d4 c.ofInt λ_ Ja=>?_;subst Ja
 refine min_two_ints (I.quiet rfl) λh' tk hk=>?_
 ·k_extra"bH"
  have e:min a b=if b<a then b else a:=by split<;>lia
  rw[e] at h
  split
  ·k_extra"aL"
  ·rename_i O;rw[if_neg O] at h;exact(λ_ k_=>k_ _ Z (.int _ _) (I.keep st (I.sim.grow hk)) st h))
set_option tactic.hygienic true in
theorem Xm(h:Q (.int (max a b)) Z):Cl g ⟨sc,vs,d,true⟩ (.builtin "max") [.int a,.int b] J Z Q X:=(λA R s w I r=>by
 refine g8 r.two λ_ _ Ja u c=>?_;clear r;subst Ja
 refine d4 u.ofInt λ_ Ja=>?_;clear u;subst Ja;refine d4 c.ofInt λ_ Ja=>?_;subst Ja
 refine max_two_ints (I.quiet rfl) λh' tk hk=>?_
 ·k_extra"bH"
  have e:max a b=if b > a then b else a:=by split<;>lia
  rw[e] at h
  split
  ·k_extra"aL"
  ·rename_i O;rw[if_neg O] at h;exact(λ_ k_=>k_ _ Z (.int _ _) (I.keep st (I.sim.grow hk)) st h))
theorem RV(hb:Bi g x (.type "list"))(hk:sc.names.lookup x=some .globalImplicit)(hd:(x==("__debug__" : Str))=false)
  (h:Rng g ⟨sc,vs,d,true⟩ e J Z (λa b c w=>∃ n:Nat,a=0/\c=1/\b=n/\n<=10000/\∀ l,w l=none->Q (.ref l) (upd w l (.L (m7 0 1 n)))) X)
  (he:∀ env,mF [e] env=[(false,eval e env)]):Ev g ⟨sc,vs,d,true⟩ (.Call (.Name x np) [e] [] pos) J Z Q X:=(λA env s I=>by
 k_extra"ay";k_extra"bX"
 refine callWith_excType hp (s7 hp (wpAny_items_cons (lY (h A env s I) (λv O R=>wpAny_items_nil (R _ ?_)) λN N p=>p) (he env)))
 clear R;rintro r a b c t u v' w hx Y E C ⟨n,M,U,hb,P,T⟩;subst hx M U hb;refine call_list_range (E.quiet rfl) Y (wB (by unfold s5;exact Fe) (by unfold s5;exact⟨aW (by decide) (bB _),aW (bj.mpr P) (by decide)⟩)) (HB n) (aj P (by decide)) λJa tk H c' y Za D=>l8.step C (K6 (s':={O with heap:=Ja,toks:=tk}) E ⟨y,rfl,rfl⟩ (u7 _) Za ?_ T)
 have:∀ (k:Nat) (l:List Value) (m:Nat),(∀ i v,l[i]?=some v->∃ t,v=Value.int (((m+i:Nat):Int)) t)->l.length=k->d9 Ja l ((bh k).map fun(i:Nat)=>V.int (((m+i:Nat):Int))):=by
  intro k;induction k with
  | zero=>intro l m _ hl;obtain rfl:=cY.mp hl;exact .nil
  | succ k ih=>
   intro l m K hl;cases l with
   | nil=>cases hl
   | cons v l=>
    refine d4 (K 0 v rfl) λt qa=>?_;subst qa
    rw[List.range_succ_eq_map,eF,cR];refine .cons (.int _ t) ?_;have:=ih l (m+1) (λi v S=>by
     refine d4 (K (i+1) v S) λt e=>?_
     exact⟨t,by rw[e];congr 2;lia⟩) (by simpa using hl)
    have e:((λi=>V.int (((m+i:Nat):Int)))∘Nat.succ)=λi=>V.int (((m+1+i:Nat):Int)):=by
     funext i;simp only[Function.comp];congr 2;lia
    rw[e];exact this
 have L:=this n H.toList 0 (λi v S=>by
  obtain⟨t,e⟩:=D.2 i v (by rw[<- aU];exact S)
  exact⟨t,by rw[e];congr 1;exact De⟩) (by rw[aJ];exact D.1)
 unfold m7;have e:(fun(i:Nat)=>V.int (0+(i:Int)*1))=λi=>V.int (((0+i:Nat):Int)):=by funext i;congr 1;exact De
 rw[e];exact L)
end
def qH:Expr->Bool:=fun | .Starred ..=>true | _=>false
theorem GD{u c:Type}{f:u->Option c}{a b:u}{x y:c}(Za:f a=some x)(S:f b=some y):[a,b].filterMap f=[x,y]:=by
 rw[jx Za,jx S];rfl
theorem Mr{A:Pos}(Y:env.blockKind=.function)(H:env.kindOf x=some .local)(I:env.kindOf y=some .local)(hl:(A.line==px.line)=true)(u:([x,y].eraseDups.length != 2)=false)
  (D:([a,b].any qH)=false) (T:[a,b].all (mG 8)=false) (O:[a,b].all (mH 8)=false) :
  swappedStores [.Tuple [.Name x px,.Name y A] k c] (.Tuple [a,b] Ja p) env=pure (some [x,y]):=by
 have E:(if (env.kindOf x==some .local&&px.line==px.line)=true then some x else none)=some x:=if_pos (by rw[H];simp)
 have C:(if (env.kindOf y==some .local&&A.line==px.line)=true then some y else none)=some y:=if_pos (by rw[I,hl];rfl)
 unfold swappedStores;refine(if_neg (by rw[Y];exact az)).trans ((if_neg (λh=>az (D.symm.trans h))).trans ?_)
 have w:∀ (names:List Str) (U:Sem (Option (List Str))),names=[x,y]->(if (names.length != 2||names.eraseDups.length != names.length)=true then(pure none:Sem (Option (List Str))) else if [a,b].all (mG 8)=true then pure none else if [a,b].all (mH 8)=true then U else pure (some names))=pure (some [x,y]):=by
  rintro _ U rfl;exact(if_neg λh=>az (u.symm.trans h)).trans ((if_neg λh=>az (T.symm.trans h)).trans (if_neg λh=>az (O.symm.trans h)))
 exact w _ _ (GD E C)
section
variable{g:G}{vs:List Str}{d:Nat}{q:Bool}{Q:V->Hp->Prop}
theorem Pu(h:Q (.bool true) Z):mK g F (compareOp .NotEq) .none (.int i) J Z Q X:=vg rfl rfl (aY _) h
theorem bM9(h:Q (.bool false) Z):mK g F (compareOp .Eq) .none (.int i) J Z Q X:=tU rfl rfl (aY _) h
theorem Qa(h:Q (.bool (a != b)) Z):mK g F (compareOp .NotEq) (.bool a) (.bool b) J Z Q X:=vg rfl rfl (aY _) h
theorem cw4(h:Q (.bool (a==b)) Z):mK g F (compareOp .Eq) (.bool a) (.bool b) J Z Q X:=tU rfl rfl (aY _) h
end
noncomputable def sX(P:Params)(p:Str×Nat×Int×Nat):DictEntry:=⟨PyData.keyHash P p.1,.str p.1 p.2.1,.int p.2.2.1 p.2.2.2⟩
theorem Mg(l:List (Str×Nat×Int×Nat))(q:(l.map (·.1)).Nodup)(x:(d==sysModules)=false)(P:h.get? d=some {cls:=.type "dict",data:=.dict (l.map (sX w.params)).toArray n}) :
  StrTab prog w h d ((l.map λp=>(p.1,p.2.2.1)).map λp=>(PyData.str p.1,PyData.int p.2)):=by
 refine TabAt.ofObj (kvs:=l.map λp=>(p.1,Value.int p.2.2.1 p.2.2.2)) x P ⟨_,_,⟨rfl,rfl,rfl⟩,rfl,?_,?_,?_⟩ ?_
 ·intro e c
  simp only[List.mem_toArray,aM] at c
  refine a7 c λp N Ja=>?_;clear c;subst Ja
  exact⟨p.1,by simp[PySem.strKind,Value.isStrOf,sX],rfl⟩
 ·rw[lG]
  clear P q;induction l with
  | nil=>exact .nil
  | cons p l u=>exact .cons (by simp[PySem.strKind,Value.isStrOf,sX]) rfl u
 ·rw[cR];exact q
 ·clear P q
  induction l with
  | nil=>exact .nil
  | cons p l u=>exact .cons (PyProof.V.Flat.int _ _) u
theorem uC{h:Heap}{o:Obj}{ep:Nat}(w:h.Ns a m)(P:h.get? a=some o)(u:o.data=.dict M ep)(x:Str):m x=nsFind M x:=by
 refine I5 w λU q X Za c N T=>?_
 rw[P] at Za;replace Za:=d7 Za;subst Za;rw[u] at c;cases c;exact(T x).symm
theorem d9.erase(i:Nat)(r:d9 h vs l):d9 h (vs.eraseIdx i) (l.eraseIdx i):=by
 induction l generalizing vs i with
 | nil=>rw[r.ofNil];exact .nil
 | cons y l ih=>
  k_extra"da"
  cases i with
  | zero=>exact r2
  | succ i=>exact .cons r1 (ih i r2)
section
variable{g:G}{Q:V->Hp->Prop}
theorem zB{A env s}{fr own:Addr->Prop}{tk:Nat}(I:Inv g F A env J Z s)(C:Z a=some (.L l))(P:s.heap.get? a=some {cls:=.type "list",data:=.seq vs n})
  (r:d9 s.heap (f vs).toList l'):Inv g F A env J (upd Z a (.L l')) {s with heap:=s.heap.update a (bW f),toks:=tk}/\Step fr own Z (upd Z a (.L l')) s {s with heap:=s.heap.update a (bW f),toks:=tk}:=by
 have c:Heap.SameBut a s.heap (s.heap.update a (bW f)):=Heap.SameBut.update ..;have u:(s.heap.update a (bW f)).PlainList a (f vs):=⟨_,dG _ P rfl⟩;have w:=nW c ⟨n,P⟩;obtain⟨q,D⟩:=sV (own:=own) (tk:=tk) I ⟨_,C⟩ u (r.mono w) c ⟨vs,n,P⟩;exact⟨q,D⟩
theorem Zc{l:List V}{k:Int}(hZ:Z a=some (.L l))(hz:l.length<=10000)(Y:0<=k)(K:k<l.length)(U:l[k.toNat]?=some x)(h:Q x (upd Z a (.L (l.eraseIdx k.toNat)))):Cl g F (.builtin "list.pop") [.ref a,.int k] J Z Q X:=(λA R s M I r=>by
 k_extra"dl"
 k_extra"br";refine d4 r'.ofInt λz_ qa=>?_;subst qa
 k_extra"cI";k_extra"bc"
 refine a7 (rl.get U) λv S w=>?_
 have c:vs[k.toNat]?=some v:=by rw[<- aU];exact S
 refine call_meets PySem.F.slot_list_pop ⟨_,ho,rfl⟩ PySem.F.entry_list_pop (PySem.F.args_list_pop_2 _ _) (MeetsSeq.list_pop_at a vs n k _ k.toNat v (by simp[Builtin.List.listFitsIndex];exact Ma hz Y K) (by rw[e];exact tG Y K) c (by rw[e];exact aj hz (by decide))) ⟨ho,?_⟩
 obtain⟨q,D⟩:=zB (own:=f5) (tk:=s.toks) (f:=λy=>y.eraseIdxIfInBounds k.toNat) (l':=l.eraseIdx k.toNat) I hZ ho (by
  have:(vs.eraseIdxIfInBounds k.toNat).toList=vs.toList.eraseIdx k.toNat:=by simp
  rw[this];exact rl.erase _)
 exact(λz_ u=>u x _ (w.mono D.tups) q D h))
theorem Gf(r:d9 h vs.toList l):∀ (n:Nat) (c:Array Value) (k:List V),d9 h c.toList k->d9 h (lw (λx y=>x++y) c (aC n vs)).toList (k++(aC n l).flatten)
 | 0,c,k,K=>by simpa using K
 | n+1,c,k,K=>by
  rw[gA,gD,gA,gP,<- bH];exact Gf r n _ _ (by rw[Array.toList_append];exact K.append r)
set_option tactic.hygienic true in
theorem MN(C:Z a=some (.L l))(Y:0<=n)(hz:l.length*n.toNat<=10000)(E:n<=10000)(h:∀ b,Z b=none->Q (.ref b) (upd Z b (.L (aC n.toNat l).flatten))):mK g F (binaryOp .Mult) (.ref a) (.int n) J Z Q X:=(λA R s x y I rx Za=>by
 k_extra"cF";refine d4 Za.ofInt λu Ja=>?_;subst Ja
 obtain⟨vs,⟨k,P⟩,rl⟩:=(I.sim.objs a _ C).1;k_extra"bc"
 have D:vs.size*n.toNat<=10000:=by rw[e];exact hz
 refine wpAny_binaryOp_repeat_ref (T:="list") (U:="int") (by decide) ⟨_,P,rfl⟩ (λs'=>typeIs_int s' n u) noFill_list_mul PySem.F.fills_int_mul PySem.F.slot_int_rmul repeat_list PySem.F.slot_int_index.lookup
  (call_meets PySem.F.slot_int_rmul (typeIs_int s n u) PySem.F.entry_int_rmul (PySem.F.args_int_rmul_2 _ _) (int___rmul___int_list n u a vs k)
   ⟨P,rfl,⟨_,P,rfl⟩,call_meets PySem.F.slot_list_mul ⟨_,P,rfl⟩ PySem.F.entry_list_mul (PySem.F.args_list_mul_2 _ _)
    (AutoListH.list___mul___list_int_3 a vs k n u (by simp[Builtin.List.listFitsIndex];exact⟨aW (by decide) Y,bG E (by decide)⟩) (by lia) (by simp[Builtin.List.listTooLong,sizeLine];lia))
    ⟨P,?_⟩⟩)
 refine K6 (s':={s with heap:=s.heap.push {cls:=.type "list",data:=.seq (lw (λq w=>q++w) #[] (aC (if vs.isEmpty=true then 0 else n.toNat) vs))}}) I ⟨λb o e=>aD _ e,rfl,rfl⟩ (u7 _) (aO _ rfl) ?_ h
 have:d9 s.heap (lw (λq w=>q++w) #[] (aC (if vs.isEmpty=true then 0 else n.toNat) vs)).toList (aC n.toNat l).flatten:=by
  split
  ·rename_i c
   have:vs=#[]:=by simpa using c
   clear rx;clear Za;clear P;clear D;clear c;clear C;clear hz;clear h;subst this;obtain rfl:l=[]:=by cases l with | nil=>rfl | cons x l=>refine i6 rl.ofCons λ_ _ e _=>?_;cases e
   rw[show(aC n.toNat ([]:List V)).flatten=[] by simp]
   exact .nil
  ·have:=Gf rl n.toNat #[] [] .nil
   simpa using this
 exact this.mono (Step.push (fr:=inF A) (own:=f5) (Z:=Z) (s:=s) (o:={cls:=.type "list",data:=.seq (lw (λq w=>q++w) #[] (aC (if vs.isEmpty=true then 0 else n.toNat) vs))})).tups)
end
section
variable{K:Type}{h:Heap}{kvs:List (K×Value)}{L:List (K×V)}
theorem KVs.nil:KVs (K:=K) h [] []:=⟨rfl,.nil⟩
theorem KVs.cons{k:K}{v:Value}{x:V}(r:Rep h v x)(s:KVs h kvs L):KVs h ((k,v)::kvs) ((k,x)::L):=⟨congrArg (k :: ·) s.1,.cons r s.2⟩
theorem KVs.ofNil(s:KVs h kvs []):kvs=[]:=List.map_eq_nil_iff.mp s.1
theorem KVs.ofCons(s:KVs h kvs ((k,x)::L)):∃ v M,kvs=(k,v)::M/\Rep h v x/\KVs h M L:=by
 cases kvs with
 | nil=>cases s.1
 | cons p M=>
  obtain⟨E,C⟩:=List.cons.inj s.1;obtain⟨Y,v⟩:=p;obtain⟨P,q,e,r1,r2⟩:=s.2.ofCons;obtain⟨c,y⟩:=List.cons.inj e;clear s;clear e;subst E c y;exact⟨v,M,rfl,r1,C,r2⟩
variable[DecidableEq K]
noncomputable def x7(L:List (K×V))(k:K)(v:V):List (K×V):=if L.any (λp=>p.1=k) then L.map (λp=>if p.1=k then(p.1,v) else p) else L++[(k,v)]
noncomputable def i9(L:List (K×V))(k:K):Option V:=(L.find? λp=>p.1=k).map (·.2)
inductive Seen(h:Heap):Option Value->Option V->Prop
 | no:Seen h none none
 | yes {v:Value} {x:V} (r:Rep h v x):Seen h (some v) (some x)
theorem KVs.seen(k:K)(s:KVs h kvs L):Seen h (valueAt kvs k) (i9 L k):=by
 induction L generalizing kvs with
 | nil=>rw[s.ofNil];exact .no
 | cons p L c=>
  obtain⟨Y,x⟩:=p;obtain⟨v,M,rfl,r,s⟩:=s.ofCons;have S:=c s;unfold valueAt i9 at S ⊢;rw[fK,fK];by_cases e:Y=k
  ·rw[show decide ((Y,v).1=k)=true from decide_eq_true e];exact .yes r
  ·rw[show decide ((Y,v).1=k)=false from decide_eq_false e];exact S
theorem zN{c:Type}(l:List (K×c))(k:K):l.any (λp=>p.1=k)=(l.map (·.1)).any (λq=>q=k):=by rw[lQ];rfl
theorem KVs.put(s:KVs h kvs L)(r:Rep h v x):KVs h (stored kvs k v) (x7 L k x):=by
 unfold stored x7;rw[zN kvs,zN L,s.1];cases(L.map (·.1)).any (λq=>q=k) with
 | true=>
  rw[if_pos rfl,if_pos rfl];induction L generalizing kvs with
  | nil=>rw[s.ofNil];exact .nil
  | cons p L c=>
   obtain⟨Y,y⟩:=p;obtain⟨u,M,rfl,r1,s⟩:=s.ofCons;rw[eF,eF];by_cases e:Y=k
   ·rw[if_pos e,if_pos e];exact .cons r (c s)
   ·rw[if_neg e,if_neg e];exact .cons r1 (c s)
 | false=>
  rw[if_neg az,if_neg az];refine⟨?_,?_⟩
  ·rw[aN,aN,s.1];rfl
  ·rw[aN,aN];exact s.2.append (.cons r .nil)
theorem KVs.len(s:KVs h kvs L):kvs.length=L.length:=by
 have:=congrArg List.length s.1;rw[aq,aq] at this;exact this
end
structure Kd(g:G)(K:Type)[DecidableEq K] where
 knd:KeyKind g.prog g.w K
 key:K->V
 ob:List (K×V)->AObj
 rep:∀ h v k,Rep h v (key k)->knd.is k v=true
 orep:∀ h a l,u5 g h a (ob l)=o6 knd h a l
def kdI(g:G):Kd g Int where
 knd:=intKind g.prog g.w
 key:=.int
 ob:=.di
 rep:=λh v k r=>by refine d4 r.ofInt λt Ja=>?_;subst Ja;exact decide_eq_true rfl
 orep:=λN N N=>rfl
def kdS(g:G):Kd g Str where
 knd:=strKind g.prog g.w
 key:=.str
 ob:=.ds
 rep:=λh v k r=>by refine d4 r.ofStr λt Ja=>?_;subst Ja;exact beq_self_eq_true k
 orep:=λN N N=>rfl
section
variable{g:G}{Q:V->Hp->Prop}{K:Type}[DecidableEq K](D:Kd g K)
theorem Inv.dict{A env s}{L:List (K×V)}(I:Inv g F A env J Z s)(C:Z a=some (D.ob L)):o6 D.knd s.heap a L:=by
 have:=(I.sim.objs a _ C).1;rw[D.orep] at this;exact this
theorem Eh{h:Heap}(s:Seen h o x):o.isSome=x.isSome:=by cases s<;>rfl
theorem bQ0{L:List (K×V)}(hZ:Z a=some (D.ob L))(h:Q (.bool (i9 L k).isSome) Z):mK g F (compareOp .In) (D.key k) (.ref a) J Z Q X:=(λA R s x y I O ry=>by
 obtain rfl:=ry.ofRef;refine(I.dict D hZ) _ ?_;rintro kvs c S q;exact wpAny_in_of (D.rep _ _ _ O) q c.mapOf (by rw[Eh (S.seen k)];exact n7 I h))
theorem bl1{L:List (K×V)}(hZ:Z a=some (D.ob L))(h:Q (.bool (!(i9 L k).isSome)) Z):mK g F (compareOp .NotIn) (D.key k) (.ref a) J Z Q X:=(λA R s x y I O ry=>by
 obtain rfl:=ry.ofRef;refine(I.dict D hZ) _ ?_;rintro kvs c S q;exact wpAny_notIn_of (D.rep _ _ _ O) q c.mapOf (by rw[Eh (S.seen k)];exact n7 I h))
theorem zm{L:List (K×V)}(hZ:Z a=some (D.ob L))(U:i9 L k=some x)(h:Q x Z):Itm g F (.ref a) (D.key k) J Z Q X:=(λA R s v y I rv Za=>by
 obtain rfl:=rv.ofRef;refine(I.dict D hZ) _ ?_;rintro kvs c S w;have q:=S.seen k;rw[U] at q;generalize e:valueAt kvs k=C at q;cases q with
 | yes r=>exact⟨"dict",_,c.typeIs,slot_dict_getitem.lookup,wpAny_getItem_of (D.rep _ _ _ Za) c.mapOf e (λz_ u=>u x Z r (I.keep Step.toks I.sim) Step.toks h)⟩)
theorem uH{h:Heap}{L:List (K×V)}(u:Heap.SameBut a h h')(c:o6 D.knd h a L):l7 h h':=λb w n e=>by
 exact k9 c.has λM ep P=>(u.2 b (λq=>by rw[q,P] at e;simp at e)).trans e
theorem o6.isD{h:Heap}{a:Addr}{l:List (K×V)}(x:o6 knd h a l):∃ c,h.get? a=some c/\IsD c:=by
 exact k9 x.has λM ep P=>⟨_,P,M,ep,rfl⟩
theorem Dr{L:List (K×V)}{v:V}{P:Hp->Prop}(C:Z b=some (D.ob L))(hz:L.length<=sizeLine)(U:P (upd Z b (D.ob (x7 L k v)))):StI g F (.ref b) (D.key k) v J Z P:=(λA R s x y z E I rx ry rz=>by
 k_extra"cF";have w:=I.dict D C;refine(id w) _ ?_;rintro kvs Y S M;refine wpAny_setItem_pairs (D.rep _ _ _ ry) Y (λT Ja H=>?_) (by rw[S.len];exact hz)
 have O:=uH D H w;have u:o6 D.knd T b (x7 L k v):=(λN Za=>Za _ Ja ((S.mono O).put (rz.mono O)) M)
 obtain⟨q,c⟩:=X0 (fr:=inF A) (own:=ownOf R) (tk:=s.toks+1) I C (by rw[D.orep];exact u) H O λN N N=>u.isD
 exact⟨_,q,c,U⟩)
theorem oX{A env s}(I:Inv g F A env J Z s):(s.heap.objs.size==sysModules)=false:=by
 refine v8 (g.ns.keeps I.sim.stays) λo M ep P N=>?_
 show(s.heap.objs.size==1)=false;rw[beq_eq_false_iff_ne];exact λe=>absurd (e▸(bC P)) (by decide)
theorem uD{h:Heap}(c:(h.objs.size==sysModules)=false):o6 D.knd (h.push {cls:=.type "dict",data:=.dict #[]}) h.objs.size []:=(λz_ q=>q [] (Heap.DictOf.new _) .nil c)
theorem rA{o:Obj}:Ext s {s with heap:=s.heap.push o}:=⟨λb o e=>aD _ e,rfl,rfl⟩
theorem Gj(h:∀ a,Z a=none->Q (.ref a) (upd Z a (D.ob []))):Ev g F (.Dict [] [] pos) J Z Q X:=(λA R s I=>
 wpAny_Dict_empty (U6 I rA (u7 _) (by rw[D.orep];exact uD D (oX I)) h))
theorem j6.unframe{A env s sw sv}(st:Step (inF A) f5 Z sv s sw)(p:j6 g F A env J sv sw (λv c=>∃ Z',c=upd Z' d o/\Z' d=none/\X v Z') e s'):j6 g F A env J Z s X e s':=by
 k_extra"7";rintro x c f i y ⟨Z',rfl,u,q⟩;exact(λz_ w=>w x Z' ((f.step st).sub (Sub.upd u)) (i.sub (Sub.upd u)) ((st.trans y).sub (Sub.upd u)) q)
theorem Uy{ve:Expr}(h:Ev g F ke J Z (λkv c=>Ev g F ve J c (λv u=>∃ k,kv=D.key k/\∀ a,u a=none->Q (.ref a) (upd u a (D.ob [(k,v)]))) X) X):Ev g F (.Dict [some ke] [ve] pos) J Z Q X:=(λA R s I=>by
 refine wpAny_Dict_pairs (knd:=D.knd) (pairs:=[(eval ke R,do let y <- eval ve R;standAt pos;pure y)]) rfl (by simp) (by simp) ((U6 (Q:=λv c=>∃ a,v=.ref a/\c=upd Z a (D.ob [])/\Z a=none) (o:=D.ob []) I (rA (o:={cls:=.type "dict",data:=.dict #[]})) (u7 _) (by rw[D.orep];exact uD D (oX I)) λa ha=>⟨a,rfl,rfl,ha⟩) _ ?_)
 rintro V c r Za E ⟨a,rfl,rfl,ha⟩;have e0:=Value.ref.inj r.ofRef;refine evalPairs_cons (pgo ((h.frame ha) A R _ Za) (λkv T Vk u rk H S U=>f6 U λZ' qa hn Ja=>?_) λe s' p=>p.unframe E)
 clear U;rw[qa] at H S;have M:=E.trans S;refine lW (pgo ((Ja.frame hn) A R T H) (λvv Y Vv Z3 rv w x U=>?_) λe s' p=>p.unframe M)
 obtain⟨Z'',rfl,hn',k,rfl,hQ⟩:=U;refine lW (wpAny_standAt (lX (evalPairs_nil ?_)));rw[e0];have P:=w.dict D (d6 _ _ _);refine(id P) _ ?_;rintro kvs hd hv hsm;clear Ja;obtain rfl:=hv.ofNil;refine⟨[(k,vv)],⟨D.rep _ _ _ (rk.mono x.tups),rfl,trivial⟩,hd,λh' hd' O=>?_⟩
 have tu:=uH D O P;have dr:o6 D.knd h' a [(k,Vv)]:=(λN k_=>k_ _ hd' (.cons (rv.mono tu) .nil) hsm)
 obtain⟨q,C⟩:=X0 (fr:=inF A) (o':=D.ob [(k,Vv)]) (own:=f5) (tk:=Y.toks+1) w (d6 _ _ _) (by rw[D.orep];exact dr) O tu λN N N=>dr.isD
 rw[S0] at q C;exact(λN k_=>k_ (.ref a) _ (.ref a) q ((M.trans x).trans C) (hQ a hn')))
end
section
variable{g:G}{vs:List Str}{d:Nat}{q:Bool}{Q:V->Hp->Prop}
theorem bW4{E:List Int}:∀ {l:List Value},d9 h l (E.map .int)->∃ ps:List (Int×Tok),l=ps.map (λp=>.int p.1 p.2)/\ps.map (·.1)=E:=by
 induction E with
 | nil=>intro l r;rw[r.ofNil];exact⟨[],rfl,rfl⟩
 | cons n E c=>
  intro l r;k_extra"Z";clear r;subst qa
  refine d4 r1.ofInt λt qa=>?_;clear r1;subst qa
  refine a7 (c r2) λps qa u=>?_;clear c;clear r2;subst qa;subst u
  exact⟨(n,t)::ps,rfl,rfl⟩
end
section
variable{g:G}{Q:V->Hp->Prop}
theorem bh9{K:Type}[DecidableEq K](D:Kd g K)
  (h:Ev g F o J Z (λv c=>∃ a L,v=.ref a/\c a=some (D.ob L)/\Ev g F e J c (λu H=>Ev g F z J H (λy M=>∃ k L',u=D.key k/\M a=some (D.ob L')/\Q ((i9 L' k).getD y) M) X) X) X)
  (P:(O.endLine==pos.line)=true) (T:∀ env,attributeBase o (aa "get") env (eval o env)=eval o env)
  (U:∀ env,((backTo pos (mF [e,z] env)).all (λx=>!x.1)&&(backToKw pos (keywordEach [] env)).all (λx=>x.1.isSome)
   && decide ([e,z].length+([]:List Keyword).length+(if ([]:List Keyword).isEmpty then 0 else 1)<30))=true) (he:∀ env,mF [e,z] env=[(false,eval e env),(false,eval z env)]) :
  Ev g F (.Call (.Attribute o (aa "get") O) [e,z] [] pos) J Z Q X:=(λA env s I=>by
 refine wpAny_Call_method (T env) (U env) P PySem.F.plainAttrs_dict PySem.F.slot_dict_get PySem.F.type_dict_get (pgo (h A env s I) (λov sw V c r Za E hpq=>g8 hpq λa L hv hZ h1=>?_) λN N p=>p)
 clear hpq;rw[hv] at r;k_extra"bu";refine k9 ((Za.dict D hZ).has) λes ep ho=>⟨⟨_,ho,rfl⟩,λb e=>by cases e;exact⟨_,ho,rfl⟩,?_⟩
 rw[he env];refine method2_meetsIn PySem.F.slot_dict_get PySem.F.entry_dict_get ?_;rw[if_neg az,if_neg az];refine pgo (h1 A env sw Za) (λkv s₂ Vk H rk Y S hq=>?_) λN N p=>p.step E
 have R:=E.trans S;refine pgo (hq A env s₂ Y) (λzv s₃ Vz M rz w C hq=>g8 hq λk L' qa Ja hQ=>?_) λN N p=>p.step R
 clear hq;clear hq;rw[qa] at rk;refine(w.dict D Ja) _ ?_;rintro kvs hd hv hs;refine⟨hd.typeIs,PySem.F.args_dict_get_3 _ _ _,_,meets_dict_get_default D.knd a (D.rep _ _ _ (rk.mono C.tups)) hs zv,_,hd.mapOf,?_⟩;have q:=hv.seen k;refine l8.step (R.trans C) ?_;generalize valueAt kvs k=ov at q ⊢;generalize i9 L' k=od at q hQ;cases q with
 | no=>exact(λN k_=>k_ _ M rz (w.keep Step.toks w.sim) Step.toks hQ)
 | yes r=>exact(λN k_=>k_ _ M r (w.keep Step.toks w.sim) Step.toks hQ))
theorem Wi{Q:j5}{X:n5}(C:F.q=true)(h:Ev g F e J Z (λv u=>Asg g F (.Tuple M k w) v J u (λP=>Q .next P u)) (λx u=>X x J u))
  (D:∀ env,swapsWithSole [.Tuple M k w] e pos.line env=pure false) (c:∀ env,swappedStores [.Tuple M k w] e env=pure none):Ex g F (.Assign [.Tuple M k w] e pos) J Z Q X:=(λA env s I=>by
 refine PyProof.Rows.Assign_Tuple (lY (h A env s I) (λv O p=>p _ ?_) λN N p=>p.toS) (D env) (c env)
 clear p;rintro V u r Za E a;exact a.run A env O v _ _ Za (Za.quiet C) r λT P y S q=>(λN H=>H .next P u .next y ((E.mono λN h=>h.elim).trans S) q))
end
section
variable{g:G}{vs:List Str}{d:Nat}{q:Bool}{Q:V->Hp->Prop}
theorem YB:AnswersAll (λs=>s.TypeIs (.ref a) "list") (.ref a) [.type "list",.type "tuple"] [true,false]:=
 ⟨Answers.of_true (by kernel_rfl) (by rw[isSubtype_type];kernel_rfl),Answers.of_false_list (by decide) (by kernel_rfl) (by rw[isSubtype_type];kernel_rfl),trivial⟩
theorem bW3:AnswersAll (λs=>s.TypeIs (.ref a) "tuple") (.ref a) [.type "list",.type "tuple"] [false,true]:=
 ⟨Answers.of_false_tuple (by decide) (by kernel_rfl) (by rw[isSubtype_type];kernel_rfl),Answers.of_true (by kernel_rfl) (by rw[isSubtype_type];kernel_rfl),trivial⟩
theorem UT(hb:Bi g x (.builtin "isinstance"))(Za:Bi g t (.type "list"))(S:Bi g u (.type "tuple"))(hk:sc.names.lookup x=some .globalImplicit)(C:sc.names.lookup t=some .globalImplicit)(U:sc.names.lookup u=some .globalImplicit)
  (h:Ev g ⟨sc,vs,d,q⟩ e J Z (λv w=>((∃ a l,v=.ref a/\w a=some (.L l))∨∃ l,v=.tup l)/\Q (.bool true) w) X) (hd:(x==("__debug__" : Str))=false) (R:(t==("__debug__" : Str))=false) (T:(u==("__debug__" : Str))=false)
  (he:∀ env,mF [e,.Tuple [.Name t K,.Name u y] k M] env=(false,eval e env)::mF [.Tuple [.Name t K,.Name u y] k M] env):Ev g ⟨sc,vs,d,q⟩ (.Call (.Name x np) [e,.Tuple [.Name t K,.Name u y] k M] [] pos) J Z Q X:=(λA env s I=>by
 k_extra"ay";have hp:(backTo pos (mF [e,.Tuple [.Name t K,.Name u y] k M] env)).any (·.1)=false:=by rw[he];rfl
 refine cJ hp (s7 hp (wpAny_items_cons (pgo (h A env s I) (λv O V w r E F Ja=>wpAny_items_cons (wpAny_Tuple (wpAny_items_cons (E.nB C R Za.1 Za.2 ?_)))) λN N p=>p) (he env)))
 refine wpAny_items_cons (E.nB U T S.1 S.2 (wpAny_items_nil ⟨by decide,wpAny_items_nil ?_⟩))
 have H:∀ b o,O.heap.get? b=some o->(O.heap.push {cls:=.type "tuple",data:=.seq [Value.type "list",Value.type "tuple"].toArray}).get? b=some o:=λb o e=>aD _ e
 have L:∀ D,Step (inF A) f5 w w O {O with heap:=O.heap.push {cls:=.type "tuple",data:=.seq [Value.type "list",Value.type "tuple"].toArray},toks:=D}:=λD=>Step.grow H
 obtain⟨hv,Ja⟩:=Ja;rcases hv with ⟨a,l,rfl,c⟩ | ⟨l,rfl⟩
 ·k_extra"bu"
  obtain⟨us,⟨n,P⟩,-⟩:=(E.sim.objs a _ c).1;exact IsiPair.tupleOf YB ⟨_,H _ _ P,rfl⟩ (aO _ rfl) λD=>(λN Y=>Y (.bool true) w (.bool true) (E.keep (L D) (E.sim.grow H)) (F.trans (L D)) Ja)
 ·obtain⟨a,us,n,rfl,P,-⟩:=r.ofTup
  exact IsiPair.tupleOf bW3 ⟨_,H _ _ P,rfl⟩ (aO _ rfl) λD=>(λN Y=>Y (.bool true) w (.bool true) (E.keep (L D) (E.sim.grow H)) (F.trans (L D)) Ja))
end
section
variable{g:G}{vs:List Str}{d:Nat}{q:Bool}{Q:V->Hp->Prop}
theorem Ua(E:List Int):∀ i,i<=E.length->preSum (λi=>E.getD i 0) i=(E.take i).sum:=by
 intro i;induction i with
 | zero=>intro _;rfl
 | succ i c=>
  intro h;rw[preSum,c (by exact Nat.le_of_succ_le h),aP,ak (h),List.take_succ_eq_append_getElem (h),List.sum_append]
  simp
theorem HX{K:List Int}(C:Z a=some (.L (K.map .int)))(h:Q (.int K.sum) Z):Cl g ⟨sc,vs,d,true⟩ (.builtin "sum") [.ref a] J Z Q X:=(λA R s us I r=>by
 k_extra"db"
 k_extra"br";refine a7 ((I.sim.objs a _ C).1) λvs hp rl=>a7 (bW4 rl) λps e qa=>?_
 clear rl;clear r0;clear C;rw[<- qa] at h;k_extra"c2";k_extra"aW"
 refine call_sum_walkAnyS (wpAny_pyIter_list hp.isList ?_);have E:vs.size=(ps.map (·.1)).length:=by rw[<- aJ,e,aq,aq]
 refine⟨_,_,_,_,_,_,_,λi=>(ps.map (·.1)).getD i 0,rfl,(Walks.list (A:=A.in1) (I.quiet rfl) s.heap.objs.size a hne vs).toS,⟨⟨_,aO _ rfl,rfl,rfl⟩,hp.isList.push _⟩,?_,λi v S=>?_,λO t' Ja=>?_⟩
 ·intro b Y
  have w:b=s.heap.objs.size∨b=a:=by simpa using Y
  clear hne;clear Y;rcases w with rfl | rfl
  ·exact bC (aO _ rfl)
  ·exact d4 hp λc hc=>bC (aD _ hc)
 ·have:vs.toList[i]?=some v:=by rw[aU];exact S
  rw[e,aB] at this;refine a7 (aR.mp this) λp u qa=>?_;clear S;clear this;subst qa
  refine⟨p.2,?_⟩;show _=Value.int ((ps.map (·.1)).getD i 0) p.2
  rw[aP,aB,u];rfl
 ·have x:∀ b o,s.heap.get? b=some o->O.heap.get? b=some o:=λb o e=>Ja.heap b o (λq=>by simp at q;rw[q,hfr] at e;exact f8 e) (aD _ e)
  obtain⟨u,y,Za,H,U⟩:=O;obtain⟨-,L,M,P,-⟩:=Ja;simp only at L M P x
  subst L M P;have D:Step (inF A) f5 Z Z s {s with heap:=u,toks:=H}:=Step.grow x
  rw[E,Ua _ _ (aV _),gj];exact(λz_ T=>T (.int _) Z (.int _ _) (I.keep D (I.sim.grow x)) D h))
theorem Yy{l:List V}{n:Int}(C:Z a=some (.L l))(hz:l.length<=10000)(Y:0<=n)(Za:n<=l.length)(h:Q .none (upd Z a (.L (l.take n.toNat++x::l.drop n.toNat)))):Cl g F (.builtin "list.insert") [.ref a,.int n,x] J Z Q X:=(λA R s M I r=>by
 refine g8 r.ofCons λS T Ja r0 c=>?_;clear r;subst Ja
 refine g8 c.two λL u Ja r2 U=>?_;clear c;subst Ja
 k_extra"br";refine d4 r2.ofInt λt Ja=>?_;clear r0;clear r2;subst Ja
 obtain⟨vs,⟨m,P⟩,rl⟩:=(I.sim.objs a _ C).1;k_extra"bc"
 refine call_meets PySem.F.slot_list_insert ⟨_,P,rfl⟩ PySem.F.entry_list_insert (PySem.F.args_list_insert_3 _ _ _) (PySem.AutoSeq1.list_insert_list_int_val_1 a vs m n t u (by unfold Builtin.List.listFitsIndex;simp;exact Zt hz Y Za) (by rw[e];exact aj hz (by decide))) ⟨P,?_⟩
 obtain⟨y,D⟩:=zB (own:=f5) (tk:=s.toks) (f:=λw=>have k:=if n<0 then(n+(w.size:Int)).toNat else min n.toNat w.size;(w.extract 0 k).push u++w.extract k) (l':=l.take n.toNat++x::l.drop n.toNat) I C P (by
  have E:¬ n<0:=by exact Int.not_lt_of_ge Y
  have H:min n.toNat vs.size=n.toNat:=by rw[e];exact CZ Za
  simp only[if_neg E,H]
  have K:((vs.extract 0 n.toNat).push u++vs.extract n.toNat).toList=vs.toList.take n.toNat++u::vs.toList.drop n.toNat:=by
   simp
   exact gV (by simp)
  rw[K];exact(rl.take _).append (.cons U (rl.drop _)))
 exact(λz_ O=>O .none _ .none y D h))
end
def Gy(g:G)(F:Blk)(A:Around)(env:Env)(J:List (Option V))(Z:Hp)(s:Shared)(ks:List Str)(Q:List V->Hp->Prop)(ps:List (Value×Value))(s':Shared):Prop:=
 ∀ c:Prop,(∀ (w:List V) (u:Hp) (k:d9 s'.heap (ps.map (·.1)) (ks.map .str)) (r:d9 s'.heap (ps.map (·.2)) w) (i:Inv g F A env J u s') (y:Step (inF A) f5 Z u s s') (q:Q w u),c)->c
def Evk(g:G)(F:Blk)(q:List (Option Expr))(c:List Expr)(ks:List Str)(J:List (Option V))(Z:Hp)(Q:List V->Hp->Prop)(X:Str->Hp->Prop):Prop:=
 ∀ A R s pos,Inv g F A R J Z s->wpAny (model g.prog g.w) A (evalPairs (pairTrees q c R pos)) (Gy g F A R J Z s ks Q) (j6 g F A R J Z s X) s
section
variable{g:G}
theorem GK(h:Q [] Z):Evk g F [] [] [] J Z Q X:=(λA R s pos I=>pairTrees_nil_walk (λz_ c=>c [] Z .nil .nil I Step.refl h))
theorem ZD{U:Expr}{D:List (Option Expr)}
  (h:Ev g F K J Z (λP x=>P=.str k/\Ev g F U J x (λv C=>Evk g F D u ks J C (λl M=>Q (v::l) M) X) X) X):Evk g F (some K::D) (U::u) (k::ks) J Z Q X:=(λA R s pos I=>by
 refine pairTrees_cons_walk (pgo (h A R s I) (λP O Vk x rk Za E Ja=>?_) λN N p=>p)
 refine d5 Ja λqa L=>?_;clear Ja;rw[qa] at rk
 refine pgo (L A R O Za) (λv T V C rv y S H=>?_) λN N p=>p.step E
 refine lY (H A R T pos y) (λps Y p=>?_) λN N p=>p.step (E.trans S)
 refine p _ ?_;clear p;rintro Vs M k3 r3 w c q;exact(λN k_=>k_ (V::Vs) M (.cons (rk.mono (S.trans c).tups) k3) (.cons (rv.mono c.tups) r3) w ((E.trans S).trans c) q))
theorem Oi:∀ {ps:List (Value×Value)} {C:List Str},d9 h (ps.map (·.1)) (C.map .str)->Carries (kdS g).knd ps (C.zip (ps.map (·.2))):=by
 intro ps;induction ps with
 | nil=>intro C r;cases C with
  | nil=>trivial
  | cons k C=>refine g8 r.ofCons λN N e N N=>?_;cases e
 | cons p ps q=>
  intro C r;cases C with
  | nil=>cases r.ofNil
  | cons k C=>
   refine g8 r.ofCons λv M e r1 r2=>d5 (List.cons.inj e) λE c=>?_
   obtain⟨a,b⟩:=p;subst E c;exact⟨(kdS g).rep _ _ _ r1,rfl,q r2⟩
theorem Wg(K:c.all (·.isSome)=true)(hl:c.length=x.length)(h0:c≠[])(S:c.length<=15)(hn:ks.Nodup)
  (h:Evk g F c x ks J Z (λl y=>∀ a,y a=none->Q (.ref a) (upd y a (.ds (ks.zip l)))) X):Ev g F (.Dict c x pos) J Z Q X:=(λA R s I=>by
 refine wpAny_Dict_walk (knd:=(kdS g).knd) K hl h0 S ((U6 (Q:=λv D=>∃ a,v=.ref a/\D=upd Z a (.ds [])/\Z a=none) (o:=.ds []) I (rA (o:={cls:=.type "dict",data:=.dict #[]})) (u7 _) (uD (kdS g) (oX I)) λa M=>⟨a,rfl,rfl,M⟩) _ ?_)
 rintro V D r Za E ⟨a,rfl,rfl,M⟩;have e0:=Value.ref.inj r.ofRef;refine lY (h A R _ pos (Za.sub (Sub.upd (o:=.ds []) M))) (λps Y p=>?_) λe Y p=>?_
 ·k_extra"7";rintro Vs u hk hr I' st hQ
  refine d5 (qw Za I' st M) λw T=>?_
  have st13:=E.trans (B8 (o:=.ds []) (a:=a) st);rw[e0];have P:=w.dict (kdS g) (L:=[]) (d6 _ _ _);refine(id P) _ ?_;rintro kvs hd hv hsm;obtain rfl:=hv.ofNil;have e1:(ps.map (·.1)).length=ks.length:=by rw[hk.length,aq]
  have e2:=hr.length;rw[aq] at e1 e2;refine⟨ks.zip (ps.map (·.2)),Oi hk,hd,λh' O U=>?_⟩
  rw[merged_nil_of_nodup _ (by rw[jy (by rw[aq];exact yQ e1)];exact hn)] at O
  have tu:=uH (kdS g) U P;have dr:o6 (kdS g).knd h' a (ks.zip Vs):=(λN k_=>k_ _ O ⟨by rw[jy (by rw[aq];exact yQ e1),jy (by lia)],by rw[jz (by rw[aq];exact aG e1),jz (by lia)];exact hr.mono tu⟩ hsm)
  obtain⟨H,C⟩:=X0 (fr:=inF A) (o':=.ds (ks.zip Vs)) (own:=f5) (tk:=Y.toks+ps.length) w (d6 _ _ _) dr U tu λN N N=>dr.isD
  rw[S0] at H C;exact(λN k_=>k_ (.ref a) _ (.ref a) H (st13.trans C) (hQ a T))
 ·k_extra"7";rintro V u r I' st q
  refine d5 (qw Za I' st M) λJa T=>?_
  have p2:j6 g F A R J (upd Z a (.ds [])) _ (λv y=>∃ u,y=upd u a (.ds [])/\u a=none/\X v u) e Y:=(λN k_=>k_ V _ (r.frame (Za.sim.objs a _ (d6 _ _ _)).1) Ja (B8 st) ⟨u,rfl,T,q⟩)
  exact p2.unframe E)
end
theorem Ro:typeLookup (.type "list") (aa "keys")=pure none:=by rw[typeLookup_type,builtinLookup_eq_fast];kernel_rfl
theorem WY{prog:Program}{w:World}
  (U:s.heap.get? a=some {cls:=.type "list",data:=.seq xs k}) (x:A.handled=none)
  (h:∀ h' tk,(∀ b o,s.heap.get? b=some o->h'.get? b=some o)->Q none {s with heap:=h',toks:=tk}):wpAny (model prog w) A (getAttr? (.ref a) (aa "keys")) Q E s:=by
 obtain⟨hp,g,d,tk,os⟩:=s;have D:∀ u,(⟨hp,g,d,u,os⟩:Shared).TypeIs (.ref a) "list":=λz_=>⟨_,U,rfl⟩
 have q:=sub_AttributeError;have C:=F.slot_list_getattribute.lookup;have H:=F.slot_list_getattribute.bind (.ref a);have Ja:=am_list_getattr_none;unfold getAttr? getAttrBy? getAttrBy
 repeat (any_goals (first | assumption | exact D _ | ((with_reducible show wpAny _ _ (call (Value.builtin "list.__getattribute__") _ _) _ _ _);refine call_meets F.slot_list_getattribute (D _) am_entry_list_getattribute (F.args_list_getattribute_2 _ _) (meets_getattribute_miss_list a xs k #[] (aa "keys") _ Ro (by k_extra"#")) ⟨U,x,λh' u e L=>?_⟩) | wp_step))
 refine k9 L.there λM O y=>?_
 have c:∀ u,(⟨h',g,d,u,os⟩:Shared).TypeIs (.ref e) "AttributeError":=λz_=>⟨_,y,rfl⟩
 show wpAny _ _ (getattributeRaised _ _ _ _ _ _ _) _ _ _;unfold getattributeRaised
 repeat (any_goals (first | assumption | exact c _ | wp_step))
 exact h _ _ L.keeps
theorem yS:entryFor table "dict.update.loop" = some Builtin.«dict.update.loop»:=entryFor_of_tree (by kernel_rfl)
theorem qy:plainId "dict.update.loop" = true:=by k_extra"#"
section
variable{w:World}{K:Type}[DecidableEq K]{knd:KeyKind prog w K}{R:Result->Shared->Prop}{I:Addr}{fp wr:List Addr}{G:Array GenState->Array GenState->Prop}{n:Nat}{P:Nat->Value->Prop}{St:Nat->Shared->Prop}
theorem Xy(W:WalksS prog w A.in1 I fp wr G n P St)(D:Addr)(M:D∉fp)(h0:Heap)(kvs:List (K×Value))(hn:kvs.length=n)(hz:n<=10000)
  (hP:∀ i v,P i v->∃ t k x u m,v=.ref t/\kvs[i]?=some (k,x)/\h0.get? t=some {cls:=.type "tuple",data:=.seq #[u,x] m}/\knd.is k u=true/\t≠D/\t∉wr) :
  ∀ (k i:Nat) (s:Shared),n-i=k->i<=n->St i s->s.heap.DictOf knd D (merged [] (kvs.take i))->(∀ b o,b∉wr->b≠D->h0.get? b=some o->s.heap.get? b=some o)->
   (∀ q,Moved (D::wr) G s q->q.heap.DictOf knd D (merged [] kvs)->R (.ok (.ret .none)) q)->
   codeAny (model prog w) A (.builtin "dict.update.loop" ⟨[.ref D,.ref I,rawInt i,.none],[]⟩) R s:=by
 have hDw:D∉wr:=λh=>M (W.sub _ h)
 have U:∀ b∈wr,b∈D::wr:=λb Y=>bV _ Y
 have C:∀ {s q:Shared} {l},Moved wr G s q->s.heap.DictOf knd D l->q.heap.DictOf knd D l:=λy hd=>by
  exact v8 hd λo es ep ho rest=>⟨o,es,ep,y.heap D _ hDw ho,rest⟩
 intro k;induction k with
 | zero=>
  intro i s hk hi c hS Ja hR;have hin:i=n:=xD hk hi;subst hin;rw[<- hn,gj] at hS;exact M2 yS qy (lW (m:=pyNext (.ref I)) (W.done s _ _ c λq y=>lW (m:=Builtin.Dict.addKeywords D []) (lX (lX (hR q (y.mono U) (C y hS))))))
 | succ k ih=>
  intro i s hk hi c hS Ja hR;have Za:i<n:=zA hk;refine M2 yS qy (lW (m:=pyNext (.ref I)) (W.item i s _ _ Za c λv q hPv O y=>Pa (hP i v hPv) λt ky x u m qa hkv ht X htD Q=>?_))
  subst qa;have F:=y.heap t _ Q (Ja t _ Q htD ht);refine lW (my (lW (wpAny_tryCatch (lW (wpAny_typeOf (T:="tuple") ⟨_,F,rfl⟩ (wP (by decide) (lW (wpAny_seqItems F rfl (lX (my (wpAny_dictSet_pairs X (C y hS) (λh' S L=>?_) ?_)))))))))))
  ·rw[<- merged_take_succ [] kvs i (ky,x) hkv] at S
   refine lX ⟨mD qy _,ih (i+1) _ (wA hk) Za (W.frame _ q _ _ O (gn _) λb Y o e=>?_) S (λb o h1 h2 h3=>?_) λs'' E H=>?_⟩
   ·rw[L.2 b (λh:b=D=>M (by rw[<- h];exact Y))];exact e
   ·rw[L.2 b h2];exact y.heap b o h1 (Ja b o h1 h2 h3)
   ·refine hR s'' (Moved.trans W.gtrans ((y.mono U).then_heap (gn _) λb o Y e=>?_) E) H
    rw[L.2 b (λh:b=D=>Y (by rw[h];exact du))];exact e
  ·refine aj (merged_length_le _ _) ?_
   rw[eZ,jN,sizeLine_eq];lia
theorem WK(Za:A.handled=none)(hx:s.heap.get? l=some {cls:=.type "list",data:=.seq xs m})(kvs:List (K×Value))(hn:kvs.length=xs.size)(hz:xs.size<=10000)
  (hP:∀ (i:Nat) (v:Value),xs[i]?=some v->∃ t k x u m,v=Value.ref t/\kvs[i]?=some (k,x)/\s.heap.get? t=some {cls:=.type "tuple",data:=.seq #[u,x] m}/\knd.is k u=true)
  (h:∀ h' tk,h'.DictOf knd s.heap.objs.size (merged [] kvs)->(∀ b o,s.heap.get? b=some o->h'.get? b=some o)->Q (.ref s.heap.objs.size) {s with heap:=h',toks:=tk}) :
  wpAny (model prog w) A (call (.type "dict") [.ref l]) Q E s:=by
 refine callType_codes (Q₁:=fun(H:Value) (O:Shared)=>H=Value.ref s.heap.objs.size/\O={s with heap:=s.heap.push {cls:=.type "dict",data:=.dict #[]}}) PySem.F.kt_called_dict (PySem.F.kt_typeCall_dict_1 _) PySem.F.entry_dict_init (kt_code_dict_new _ ⟨rfl,rfl⟩) ?_
 rintro H O hh;refine d5 hh λJa qb=>?_;clear hh;subst Ja;subst qb
 have c:(s.heap.push {cls:=.type "dict",data:=.dict #[]}).DictOf knd s.heap.objs.size []:=Heap.DictOf.new s.heap;have X:(s.heap.push {cls:=.type "dict",data:=.dict #[]}).get? l=some {cls:=.type "list",data:=.seq xs m}:=aD _ hx;refine⟨c.typeIs,PySem.F.args_dict_init_2 _ _,?_⟩;unfold Builtin.«dict.__init__»;refine lW ?_;unfold Builtin.Dict.selfAndRest;refine lW (wpAny_notOrdered_dict c.typeIs ?_);show wpAny _ _ (pure (s.heap.objs.size,[Value.ref l])) _ _ _;refine lX ?_;show wpAny _ _ (Builtin.Dict.updateFrom "dict.__init__" s.heap.objs.size (.ref l) [] .none) _ _ _;unfold Builtin.Dict.updateFrom;refine lW (wpAny_typeOf (T:="list") ⟨_,X,rfl⟩ ?_);rw[if_pos (by decide)]
 refine lW (WY X Za λS tk2 D=>?_)
 rw[if_pos (by decide)]
 refine lW (wpAny_rule ?_);have F:=D _ _ X;have C:S.IsList l xs:=⟨_,F,rfl,_,rfl⟩;refine lW (wpAny_pyIter_list C ?_);have hDlt:s.heap.objs.size<S.objs.size:=by
  exact v8 c λo es ep ho N=>bC (D _ _ ho)
 have L:l≠S.objs.size:=λq=>by have:=bC F;lia
 have hld:l≠s.heap.objs.size:=Eu (bC hx);have y:∀ (o':Obj) b o,s.heap.get? b=some o->(S.push o').get? b=some o:=λo' b o e=>aD _ (D b o (aD _ e))
 refine lX ⟨mD qy _,Xy (knd:=knd) (A:=A.in1) (Walks.list (A:=A.in1.in1) Za S.objs.size l L xs).toS s.heap.objs.size ?_ _ kvs hn hz ?_ xs.size 0 _ rfl (aY _) ⟨⟨_,aO _ rfl,rfl,rfl⟩,C.push _⟩ ?_ (λb o N N e=>e) λU M hd=>?_⟩
 ·intro M
  have hm':s.heap.objs.size=S.objs.size∨s.heap.objs.size=l:=by simpa using M
  lia
 ·intro i v hv
  refine bf7 (hP i v hv) λt k x u m' Ja h1 Y h4=>?_;subst Ja
  have:=bC Y;refine⟨t,k,x,u,m',rfl,h1,y _ _ _ Y,h4,by exact Eu this,?_⟩
  simp
  lia
 ·exact(c.keep D).push _
 ·refine⟨rfl,?_⟩
  have e:=Moved.eq_with M;rw[show U={s with heap:=U.heap,toks:=U.toks} from e]
  refine h _ _ hd λb o e=>M.heap b o ?_ (y _ b o e)
  have:=bC e;simp
  lia
end
section
variable{g:G}{vs:List Str}{d:Nat}{q:Bool}{Q:V->Hp->Prop}
noncomputable def F1(p:Str×V):V:=.tup [.str p.1,p.2]
def QC(g:G)(h:Heap)(M:List Value)(ps:List (Str×V)):Prop:=
 ∀ w:Prop,(∀ (c:List (Str×Value)) (r:KVs h c ps) (hl:c.length=M.length) (at':∀ (i:Nat) (v:Value),M[i]?=some v->∃ t k x u m,v=Value.ref t/\c[i]?=some (k,x)/\h.get? t=some {cls:=.type "tuple",data:=.seq #[u,x] m}/\(kdS g).knd.is k u=true),w)->w
theorem Sq:∀ {ps:List (Str×V)} {us:List Value},d9 h us (ps.map F1)->QC g h us ps:=by
 intro ps;induction ps with
 | nil=>intro us r;obtain rfl:=r.ofNil;exact(λz_ w=>w [] ⟨rfl,.nil⟩ rfl (λi v e=>by exact f8 e))
 | cons p ps A=>
  intro us r;k_extra"Z";clear r;subst qa
  refine(A r2) _ ?_;rintro c ⟨C,D⟩ hl Za;refine j8 r1.ofTup λt H m qa R y=>?_;clear r1;subst qa
  refine g8 y.two λu x e E O=>?_
  clear y;obtain rfl:H=#[u,x]:=Array.toList_inj.mp e;refine(λz_ w=>w ((p.1,x)::c) ⟨by rw[eF,eF,C],.cons O D⟩ (by rw[bD,bD,hl]) (λi v S=>?_))
  cases i with
  | zero=>replace S:=d7 S;clear e;subst S;exact⟨t,p.1,x,u,m,rfl,rfl,R,(kdS g).rep _ _ _ E⟩
  | succ i=>exact Za i v S
theorem by5{ps:List (Str×V)}(hZ:Z a=some (.L (ps.map F1)))(w:(ps.map (·.1)).Nodup)(hz:ps.length<=10000)(h:∀ b,Z b=none->Q (.ref b) (upd Z b (.ds ps))):Cl g ⟨sc,vs,d,true⟩ (.type "dict") [.ref a] J Z Q X:=(λA R s M I r=>by
 k_extra"O"
 k_extra"br";k_extra"cI";refine(Sq (g:=g) rl) _ ?_;rintro c T hl Za;rw[aJ] at hl;have E:vs.size=ps.length:=by rw[<- aJ,rl.length,aq]
 refine WK (knd:=(kdS g).knd) (I.quiet rfl) ho c hl (by lia) (λi v S=>Za i v (by rw[aU];exact S)) λy C u K=>?_
 rw[merged_nil_of_nodup _ (by rw[T.1];exact w)] at u
 exact U6 (o:=.ds ps) I ⟨K,rfl,rfl⟩ (u7 _) (λN x=>x c u (T.mono λb N N e=>K b _ e) (oX I)) h)
end
noncomputable def szs:List (Str×Int):=[("number",2),("paper",2),("line",2),("earlier",2),("add",3),("take",3),("least",3),("most",3),("part",3),("table",3),("where",4),("choose",4)]
def siz(w:Str):Option Int:=szs.lookup w
noncomputable def G9:Str:="abcdefghijklmnopqrstuvwxyz"
def f9(v:V)(u q:Int):Bool:=match v with
 | .int i=>decide (u<=i)&&decide (i<=q)
 | _=>false
def m8(x:Str):Bool:=decide (1<=x.length)&&decide (x.length<=8)&&x.cps.toList.all λc=>Txt.contains G9 ⟨#[c]⟩
def x4(v:V):Bool:=match v with
 | .str x=>m8 x
 | _=>false
noncomputable def qd(w:Str):Bool:=[("number" : Str),"paper","line","earlier"].any (· == w)
def g9(w:Str)(args:List V):List V:=
 if qd w then[] else if w == "part" then args.take 1 else if w == "table" || w == "choose" then args.drop 1 else args
noncomputable def arg(args:List V)(k:Nat):V:=(args[k]?).getD .none
structure Lim where
 L:Int
 T:Int
 C:Int
def fit(z:Lim)(w:Str)(args:List V):Bool:=
 if w == "number" then f9 (arg args 0) (0-1000000000) 1000000000
 else if w == "paper" then x4 (arg args 0)
 else if w == "line" || w == "earlier" then f9 (arg args 0) 0 (z.L-1)
 else if w == "part" then f9 (arg args 1) 0 100
 else if w == "table" then f9 (arg args 0) 0 (z.T-1)
 else if w == "choose" then f9 (arg args 0) 0 (z.C-1)
 else true
noncomputable def ok(z:Lim):Nat->V->Bool
 | 0,_=>false
 | n+1,.tup (.str w::args)=>(siz w==some ((args.length:Int)+1))&&fit z w args&&(g9 w args).all (ok z n)
 | _+1,_=>false
noncomputable def g6:Nat->V->Str->List V
 | 0,_,_=>[]
 | n+1,.tup (.str w::args),u=>(if w==u then[arg args 0] else[])++((g9 w args).map λr=>g6 n r u).flatten
 | _+1,_,_=>[]
theorem P2(z:Lim)(n:Nat)(w:Str)(args:List V):ok z (n+1) (.tup (.str w::args))=((siz w==some ((args.length:Int)+1))&&fit z w args&&(g9 w args).all (ok z n)):=rfl
theorem I8(n:Nat)(w:Str)(args:List V)(u:Str):g6 (n+1) (.tup (.str w::args)) u=(if w==u then[arg args 0] else[])++((g9 w args).map λr=>g6 n r u).flatten:=rfl
theorem ff{P:Prop}(h:false=true):P:=(az h).elim
theorem Pr{q u:Type}[BEq q][LawfulBEq q]{l:List (q×u)}{a:q}{b:u}(h:l.lookup a=some b):(a,b)∈l:=by
 induction l with
 | nil=>cases h
 | cons p l A=>
  obtain⟨x,y⟩:=p;rw[cD] at h;cases U:a==x with
  | true=>rw[U] at h;replace h:=d7 h;subst h;rw[beq_iff_eq.mp U];exact du
  | false=>rw[U] at h;exact bV _ (A h)
theorem Y1{w:Str}(h:siz w=some n):(w,n)∈szs:=Pr h
class inductive GR (z:Lim) (see:Int->Prop) (wd:Str->Prop):Nat->V->Prop
 | num {d:Nat} {i:Int}:0-1000000000<=i->i<=1000000000->GR z see wd (d+1) (.tup [.str "number",.int i])
 | line {d:Nat} {i:Int}:see i->GR z see wd (d+1) (.tup [.str "line",.int i])
 | earlier {d:Nat} {i:Int}:0<=i->i<z.L->GR z see wd (d+1) (.tup [.str "earlier",.int i])
 | paper {d:Nat} {x:Str}:wd x->GR z see wd (d+1) (.tup [.str "paper",.str x])
 | part {d:Nat} {r:V} {i:Int}:GR z see wd d r->0<=i->i<=100->GR z see wd (d+1) (.tup [.str "part",r,.int i])
 | table {d:Nat} {r:V} {i:Int}:GR z see wd d r->0<=i->i<z.T->GR z see wd (d+1) (.tup [.str "table",.int i,r])
 | twol {d:Nat} {w:Str} {r t:V}:w∈[("add" : Str),"take","least","most"]->GR z see wd d r->GR z see wd (min d 2) t->GR z see wd (d+1) (.tup [.str w,r,t])
 | twor {d:Nat} {w:Str} {r t:V}:w∈[("add" : Str),"take","least","most"]->GR z see wd (min d 2) r->GR z see wd d t->GR z see wd (d+1) (.tup [.str w,r,t])
 | wherl {d:Nat} {r t u:V}:GR z see wd d r->GR z see wd (min d 2) t->GR z see wd (min d 2) u->GR z see wd (d+1) (.tup [.str "where",r,t,u])
 | wherr {d:Nat} {r t u:V}:GR z see wd (min d 2) r->GR z see wd d t->GR z see wd (min d 2) u->GR z see wd (d+1) (.tup [.str "where",r,t,u])
 | chol {d:Nat} {r t:V} {i:Int}:0<=i->i<z.C->GR z see wd d r->GR z see wd (min d 2) t->GR z see wd (d+1) (.tup [.str "choose",.int i,r,t])
 | chor {d:Nat} {r t:V} {i:Int}:0<=i->i<z.C->GR z see wd (min d 2) r->GR z see wd d t->GR z see wd (d+1) (.tup [.str "choose",.int i,r,t])
theorem r5(h:d+1<=e):∃ k,e=k+1/\d<=k:=by
 cases e with
 | zero=>exact absurd h (Nat.not_succ_le_zero _)
 | succ e=>exact⟨e,rfl,gW h⟩
theorem H7(h:d<=k):min d 2<=min k 2:=Nat.le_min.mpr ⟨aj (cB _ _) h,eV _ _⟩
theorem GR.le{z:Lim}(h:GR z u L d r):∀ {e:Nat},d<=e->GR z u L e r:=by
 induction h with
 | num a b=>intro e he;refine a7 (r5 he) λe qa hk=>?_;subst qa;exact .num a b
 | line a=>intro e he;refine a7 (r5 he) λe qa hk=>?_;subst qa;exact .line a
 | earlier a b=>intro e he;refine a7 (r5 he) λe qa hk=>?_;subst qa;exact .earlier a b
 | paper a=>intro e he;refine a7 (r5 he) λe qa hk=>?_;subst qa;exact .paper a
 | part _ a b C=>intro e he;refine a7 (r5 he) λe qa hk=>?_;subst qa;exact .part (C hk) a b
 | table _ a b C=>intro e he;refine a7 (r5 he) λe qa hk=>?_;subst qa;exact .table (C hk) a b
 | twol a _ _ Y q=>intro e he;refine a7 (r5 he) λe qa hk=>?_;subst qa;exact .twol a (Y hk) (q (H7 hk))
 | twor a _ _ Y q=>intro e he;refine a7 (r5 he) λe qa hk=>?_;subst qa;exact .twor a (Y (H7 hk)) (q hk)
 | wherl _ _ _ Y q A=>intro e he;refine a7 (r5 he) λe qa hk=>?_;subst qa;exact .wherl (Y hk) (q (H7 hk)) (A (H7 hk))
 | wherr _ _ _ Y q A=>intro e he;refine a7 (r5 he) λe qa hk=>?_;subst qa;exact .wherr (Y (H7 hk)) (q hk) (A (H7 hk))
 | chol a b _ _ Y q=>intro e he;refine a7 (r5 he) λe qa hk=>?_;subst qa;exact .chol a b (Y hk) (q (H7 hk))
 | chor a b _ _ Y q=>intro e he;refine a7 (r5 he) λe qa hk=>?_;clear he;subst qa;exact .chor a b (Y (H7 hk)) (q hk)
theorem JL:siz "number" = some 2:=by k_extra"#"
theorem sI(a:List V):g9 "number" a=[]:=if_pos (by k_extra"#")
theorem pW(z:Lim)(a:List V):fit z "number" a=f9 (arg a 0) (0-1000000000) 1000000000:=if_pos (by k_extra"#")
theorem bp2:siz "paper" = some 2:=by k_extra"#"
theorem uA(a:List V):g9 "paper" a=[]:=if_pos (by k_extra"#")
theorem oH(z:Lim)(a:List V):fit z "paper" a=x4 (arg a 0):=(if_neg (by k_extra"#")).trans (if_pos (by k_extra"#"))
theorem Nq:siz "line" = some 2:=by k_extra"#"
theorem vB(a:List V):g9 "line" a=[]:=if_pos (by k_extra"#")
theorem X6(z:Lim)(a:List V):fit z "line" a=f9 (arg a 0) 0 (z.L-1):=(if_neg (by k_extra"#")).trans ((if_neg (by k_extra"#")).trans (if_pos (by k_extra"#")))
theorem WT:siz "earlier" = some 2:=by k_extra"#"
theorem sS(a:List V):g9 "earlier" a=[]:=if_pos (by k_extra"#")
theorem pI(z:Lim)(a:List V):fit z "earlier" a=f9 (arg a 0) 0 (z.L-1):=(if_neg (by k_extra"#")).trans ((if_neg (by k_extra"#")).trans (if_pos (by k_extra"#")))
theorem UV:siz "add" = some 3:=by k_extra"#"
theorem nZ(a:List V):g9 "add" a=a:=(if_neg (by k_extra"#")).trans ((if_neg (by k_extra"#")).trans (if_neg (by k_extra"#")))
theorem Dk(z:Lim)(a:List V):fit z "add" a=true:=(if_neg (by k_extra"#")).trans ((if_neg (by k_extra"#")).trans ((if_neg (by k_extra"#")).trans ((if_neg (by k_extra"#")).trans ((if_neg (by k_extra"#")).trans (if_neg (by k_extra"#"))))))
theorem La:siz "take" = some 3:=by k_extra"#"
theorem Y9(a:List V):g9 "take" a=a:=(if_neg (by k_extra"#")).trans ((if_neg (by k_extra"#")).trans (if_neg (by k_extra"#")))
theorem xq(z:Lim)(a:List V):fit z "take" a=true:=(if_neg (by k_extra"#")).trans ((if_neg (by k_extra"#")).trans ((if_neg (by k_extra"#")).trans ((if_neg (by k_extra"#")).trans ((if_neg (by k_extra"#")).trans (if_neg (by k_extra"#"))))))
theorem bu2:siz "least" = some 3:=by k_extra"#"
theorem nQ(a:List V):g9 "least" a=a:=(if_neg (by k_extra"#")).trans ((if_neg (by k_extra"#")).trans (if_neg (by k_extra"#")))
theorem wL(z:Lim)(a:List V):fit z "least" a=true:=(if_neg (by k_extra"#")).trans ((if_neg (by k_extra"#")).trans ((if_neg (by k_extra"#")).trans ((if_neg (by k_extra"#")).trans ((if_neg (by k_extra"#")).trans (if_neg (by k_extra"#"))))))
theorem Ka:siz "most" = some 3:=by k_extra"#"
theorem qC(a:List V):g9 "most" a=a:=(if_neg (by k_extra"#")).trans ((if_neg (by k_extra"#")).trans (if_neg (by k_extra"#")))
theorem xn(z:Lim)(a:List V):fit z "most" a=true:=(if_neg (by k_extra"#")).trans ((if_neg (by k_extra"#")).trans ((if_neg (by k_extra"#")).trans ((if_neg (by k_extra"#")).trans ((if_neg (by k_extra"#")).trans (if_neg (by k_extra"#"))))))
theorem FQ:siz "part" = some 3:=by k_extra"#"
theorem K2(a:List V):g9 "part" a=a.take 1:=(if_neg (by k_extra"#")).trans (if_pos (by k_extra"#"))
theorem oY(z:Lim)(a:List V):fit z "part" a=f9 (arg a 1) 0 100:=(if_neg (by k_extra"#")).trans ((if_neg (by k_extra"#")).trans ((if_neg (by k_extra"#")).trans (if_pos (by k_extra"#"))))
theorem Gx:siz "table" = some 3:=by k_extra"#"
theorem K1(a:List V):g9 "table" a=a.drop 1:=(if_neg (by k_extra"#")).trans ((if_neg (by k_extra"#")).trans (if_pos (by k_extra"#")))
theorem pD(z:Lim)(a:List V):fit z "table" a=f9 (arg a 0) 0 (z.T-1):=(if_neg (by k_extra"#")).trans ((if_neg (by k_extra"#")).trans ((if_neg (by k_extra"#")).trans ((if_neg (by k_extra"#")).trans (if_pos (by k_extra"#")))))
theorem Dw:siz "where" = some 4:=by k_extra"#"
theorem C2(a:List V):g9 "where" a=a:=(if_neg (by k_extra"#")).trans ((if_neg (by k_extra"#")).trans (if_neg (by k_extra"#")))
theorem qU(z:Lim)(a:List V):fit z "where" a=true:=(if_neg (by k_extra"#")).trans ((if_neg (by k_extra"#")).trans ((if_neg (by k_extra"#")).trans ((if_neg (by k_extra"#")).trans ((if_neg (by k_extra"#")).trans (if_neg (by k_extra"#"))))))
theorem Ax:siz "choose" = some 4:=by k_extra"#"
theorem D0(a:List V):g9 "choose" a=a.drop 1:=(if_neg (by k_extra"#")).trans ((if_neg (by k_extra"#")).trans (if_pos (by k_extra"#")))
theorem Y2(z:Lim)(a:List V):fit z "choose" a=f9 (arg a 0) 0 (z.C-1):=(if_neg (by k_extra"#")).trans ((if_neg (by k_extra"#")).trans ((if_neg (by k_extra"#")).trans ((if_neg (by k_extra"#")).trans ((if_neg (by k_extra"#")).trans (if_pos (by k_extra"#"))))))
noncomputable def B(n:Nat):Nat:=Nat.casesOn n 0 λn=>Nat.casesOn n 1 λn=>9*n+4
theorem Cy{a b c:Nat}(u:n≠0)(M:a<=B n)(Y:b<=B n)(q:b<=4)(O:c<=B n)(F:c<=4):1+a+b+c<=B (n+1):=by
 cases n with
 | zero=>exact absurd rfl u
 | succ n=>cases n with
  | zero=>
   have Za:B (0+1)=1:=rfl;rw[Za] at M Y O;have h:=fY (fY (cM M 1) Y) O;exact h
  | succ n=>
   exact aj (fY (fY (cM M 1) q) F) (aG (show 1+(9*n+4)+4+4=9*(n+1)+4 by lia))
theorem V0(h:n<=m):B n<=B m:=by
 induction h with
 | refl=>exact aV _
 | @step m _ q=>
  refine aj q ?_;cases m with
  | zero=>exact aY _
  | succ m=>exact aj (aZ _ _) (Cy (a:=B (m+1)) (b:=0) (c:=0) (ik _) (aV _) (aY _) (aY _) (aY _) (aY _))
theorem Et(h:k<=2):B k<=4:=V0 h
def Few(z:Lim)(r:V):Prop:=∀ n u,ok z n r=true->(g6 n r u).length<=B n
theorem Pz{c:Bool}{x:V}:(if c=true then[x] else[]).length<=1:=by cases c;exact aY 1;exact aV 1
theorem mX{z:Lim}{w:Str}(h:ok z n (.tup (.str w::args))=true):∃ m,n=m+1/\siz w=some ((args.length:Int)+1)/\fit z w args=true/\∀ x∈g9 w args,ok z m x=true:=by
 cases n with
 | zero=>exact ff h
 | succ m=>
  simp only[P2,cG,bc,beq_iff_eq] at h
  exact⟨m,rfl,h.1.1,h.1.2,h.2⟩
theorem zV{w:Str}:(g6 (n+1) (.tup (.str w::args)) u).length<=1+((g9 w args).map λr=>(g6 n r u).length).sum:=by
 simp only[I8,aK,lH,cR,Function.comp_def]
 exact cQ Pz _
structure Sz(z:Lim)(r:V)(k:Nat):Prop where
 pos:k≠0
 le:∀ n,ok z n r=true->k<=n
 few:∀ n u,ok z n r=true->(g6 n r u).length<=B k
section
variable{z:Lim}{w:Str}{x y t:V}{a b c:Nat}
theorem nR(e:g9 w args=[]):Sz z (.tup (.str w::args)) 1:=by
 refine⟨Nat.one_ne_zero,λn h=>?_,λn u h=>?_⟩
 ·refine a7 (mX h) λm qa N=>?_;subst qa;exact aZ _ _
 ·refine a7 (mX h) λm qa N=>?_;subst qa
  have:=zV (n:=m) (w:=w) (args:=args) (u:=u);rw[e] at this;exact this
theorem zM(K:k≠0)(A:∀ n,(∀ y∈g9 w args,ok z n y=true)->k<=n)(D:∀ n u,(∀ y∈g9 w args,ok z n y=true)->∃ p q r,((g9 w args).map λr=>(g6 n r u).length).sum=p+q+r/\p<=B k/\(q<=B k/\q<=4)/\r<=B k/\r<=4):Sz z (.tup (.str w::args)) (k+1):=by
 refine⟨ik _,λn h=>?_,λn u h=>?_⟩
 ·k_extra"dm";exact cU (A m hi)
 ·k_extra"dm"
  obtain⟨p,q,r,e,Za,⟨S,L⟩,X,I⟩:=D m u hi;have C:=zV (n:=m) (w:=w) (args:=args) (u:=u);rw[e,<- dZ,<- dZ] at C;exact aj C (Cy K Za S L X I)
theorem Fj(e:g9 w args=[x])(U:Sz z x a):Sz z (.tup (.str w::args)) (a+1):=
 zM U.pos (λn h=>U.le n (h x (by rw[e];exact jJ _))) λn u h=>⟨(g6 n x u).length,0,0,by rw[e];rfl,U.few n u (h x (by rw[e];exact jJ _)),⟨aY _,aY _⟩,aY _,aY _⟩
theorem qt(e:g9 w args=cs)(Za:x∈cs)(S:y∈cs)(L:t∈cs)(f:Nat->Str->Nat)(T:∀ n u,f n u=0∨f n u=(g6 n t u).length)(A:∀ n u,(cs.map λr=>(g6 n r u).length).sum=(g6 n x u).length+(g6 n y u).length+f n u)(U:Sz z x a)(I:Sz z y b)(R:Sz z t c)(Y:b<=2)(O:c<=2):Sz z (.tup (.str w::args)) (max a (max b c)+1):=by
 subst e;have M:a<=max a (max b c):=Nat.le_max_left _ _;have C:b<=max a (max b c):=aj (Nat.le_max_left _ _) (jA _ _);have D:c<=max a (max b c):=aj (jA _ _) (jA _ _);refine zM (λq=>U.pos (Nat.le_zero.mp (q▸M))) (λn h=>jn.mpr ⟨U.le n (h x Za),jn.mpr ⟨I.le n (h y S),R.le n (h t L)⟩⟩) λn u h=>?_
 have E:=I.few n u (h y S);have F:f n u<=B c:=by
  rcases T n u with q | q
  ·rw[q];exact aY _
  ·rw[q];exact R.few n u (h t L)
 exact⟨_,_,_,A n u,aj (U.few n u (h x Za)) (V0 M),⟨aj E (V0 C),aj E (Et Y)⟩,aj F (V0 D),aj F (Et O)⟩
theorem yp(e:g9 w args=[x,y])(U:Sz z x a)(I:Sz z y b)(Y:b<=2):Sz z (.tup (.str w::args)) (max a (max b b)+1):=
 qt (t:=y) e (.head _) (.tail _ (.head _)) (.tail _ (.head _)) (λN N=>0) (λN N=>.inl rfl) (λn u=>rfl) U I I Y Y
theorem xJ(e:g9 w args=[y,x])(U:Sz z x a)(I:Sz z y b)(Y:b<=2):Sz z (.tup (.str w::args)) (max a (max b b)+1):=
 qt (t:=y) e (.tail _ (.head _)) (.head _) (.head _) (λN N=>0) (λN N=>.inl rfl) (λn u=>(iD (g6 n y u).length (g6 n x u).length)) U I I Y Y
theorem ZQ(e:g9 w args=[x,y,t])(U:Sz z x a)(I:Sz z y b)(R:Sz z t c)(Y:b<=2)(O:c<=2):Sz z (.tup (.str w::args)) (max a (max b c)+1):=
 qt e (.head _) (.tail _ (.head _)) (.tail _ (.tail _ (.head _))) (λn u=>(g6 n t u).length) (λN N=>.inr rfl) (λn u=>(dZ _ _ _).symm) U I R Y O
theorem aY2(e:g9 w args=[y,x,t])(U:Sz z x a)(I:Sz z y b)(R:Sz z t c)(Y:b<=2)(O:c<=2):Sz z (.tup (.str w::args)) (max a (max b c)+1):=
 qt e (.tail _ (.head _)) (.head _) (.tail _ (.tail _ (.head _))) (λn u=>(g6 n t u).length) (λN N=>.inr rfl) (λn u=>by rw[iD (g6 n x u).length];exact(dZ _ _ _).symm) U I R Y O
end
theorem mR(h:k<=min d 2):k<=2:=aj h (eV _ _)
theorem led(h:k<=min d 2):k<=d:=aj h (cB _ _)
theorem P8{a b c:Nat}(M:a<=d)(Y:b<=d)(O:c<=d):max a (max b c)+1<=d+1:=cU (jn.mpr ⟨M,jn.mpr ⟨Y,O⟩⟩)
theorem M7{w:Str}(a:w∈[("add" : Str),"take","least","most"]):g9 w l=l:=by
 k_extra"ba"
 k_extra"ce"
 ·exact nZ _
 ·exact Y9 _
 ·exact nQ _
 ·exact qC _
theorem yR{w:Str}(a:w∈[("add" : Str),"take","least","most"]):siz w=some 3:=by
 k_extra"ba"
 k_extra"ce"
 ·exact UV
 ·exact La
 ·exact bu2
 ·exact Ka
theorem GR.sz{z:Lim}(h:GR z C L d r):∃ k,k<=d/\Sz z r k:=by
 induction h with
 | num a b=>exact⟨1,aZ _ _,nR (sI _)⟩
 | line a=>exact⟨1,aZ _ _,nR (vB _)⟩
 | earlier a b=>exact⟨1,aZ _ _,nR (sS _)⟩
 | paper a=>exact⟨1,aZ _ _,nR (uA _)⟩
 | part _ a b A=>refine a7 A λk K s=>?_;exact⟨k+1,cU K,Fj (K2 _) s⟩
 | table _ a b A=>refine a7 A λk K s=>?_;exact⟨k+1,cU K,Fj (K1 _) s⟩
 | twol a _ _ Y i2=>refine a7 Y λk K s=>?_;refine a7 i2 λj hj t=>?_;exact⟨_,P8 K (led hj) (led hj),yp (M7 a) s t (mR hj)⟩
 | twor a _ _ i2 Y=>refine a7 Y λk K s=>?_;refine a7 i2 λj hj t=>?_;exact⟨_,P8 K (led hj) (led hj),xJ (M7 a) s t (mR hj)⟩
 | wherl _ _ _ Y i2 u=>refine a7 Y λk K s=>?_;refine a7 i2 λj hj t=>?_;refine a7 u λi q v=>?_;exact⟨_,P8 K (led hj) (led q),ZQ (C2 _) s t v (mR hj) (mR q)⟩
 | wherr _ _ _ i2 Y u=>refine a7 Y λk K s=>?_;refine a7 i2 λj hj t=>?_;refine a7 u λi q v=>?_;exact⟨_,P8 K (led hj) (led q),aY2 (C2 _) s t v (mR hj) (mR q)⟩
 | chol a b _ _ Y i2=>refine a7 Y λk K s=>?_;refine a7 i2 λj hj t=>?_;exact⟨_,P8 K (led hj) (led hj),yp (D0 _) s t (mR hj)⟩
 | chor a b _ _ i2 Y=>refine a7 Y λk K s=>?_;refine a7 i2 λj hj t=>?_;exact⟨_,P8 K (led hj) (led hj),xJ (D0 _) s t (mR hj)⟩
theorem GR.few{z:Lim}(h:GR z q L d r):Few z r:=λn u K=>by
 exact a7 h.sz λk N s=>aj (s.few n u K) (V0 (s.le n K))
class inductive Cld (Z:Hp):V->Prop
 | none:Cld Z .none
 | bool (b:Bool):Cld Z (.bool b)
 | int (i:Int):Cld Z (.int i)
 | str {x:Str} (h:x.length<=10000):Cld Z (.str x)
 | ref {a:Addr} {l:List V} (h:Z a=some (.L l)):Cld Z (.ref a)
 | tup {l:List V} (hz:l.length<=100) (h:∀ x∈l,Cld Z x):Cld Z (.tup l)
def Ok(Z:Hp)(v:V):Prop:=∀ a,v=.ref a->∃ l,Z a=some (.L l)
theorem Cld.ok(h:Cld Z v):Ok Z v:=λa e=>by subst e;cases h with | ref h=>exact⟨_,h⟩
theorem Cld.strz(h:Cld Z (.str x)):x.length<=10000:=by cases h;assumption
theorem Cld.tups(h:Cld Z (.tup l)):l.length<=100/\∀ x∈l,Cld Z x:=by cases h with | tup a b=>exact⟨a,b⟩
theorem Gk(h:x∈g9 w args):x∈args:=by
 unfold g9 at h
 split at h
 ·cases h
 ·split at h
  ·exact eG h
  ·split at h
   ·exact lA h
   ·exact h
theorem bX9{q:Type}{l:List q}:(slc y c l).length<=l.length:=by
 exact aj (lg _ _) (by rw[ie];exact Nat.sub_le _ _)
theorem bd7{c:Type}{l:List c}{x:c}(h:x∈slc y q l):x∈l:=lA (eG h)
section
variable{g:G}{Q:V->Hp->Prop}
end
section
variable{g:G}{vs:List Str}{d:Nat}{Q:V->Hp->Prop}
end
theorem wK(x:V)(l:List V):slc (some 1) none (x::l)=l:=by rw[zy (by exact Int.one_nonneg)];rfl
theorem zG(x:V)(l:List V):slc (some 2) none (x::l)=l.drop 1:=by rw[zy (by exact ji 2)];rfl
def Let(x:Str):Prop:=∀ c∈x.cps.toList,Txt.contains G9 ⟨#[c]⟩=true
theorem ZS:G9.cps.toList.all (λc=>Txt.contains G9 ⟨#[c]⟩)=true:=by k_extra"#"
theorem wU{k:Nat}(h:G9.cps[k]?=some c):Let ⟨#[c]⟩:=λd q=>by
 have:d=c:=by simpa using q
 subst this;refine bc.mp ZS d ?_;rw[<- aU] at h;exact aL h
theorem Let.nil:Let (aa ""):=λc O=>by rw[show(aa "").cps.toList=[] from by k_extra"#"] at O;cases O
theorem xW(x y:Str):(x++y).cps.toList=x.cps.toList++y.cps.toList:=by
 show(x.cps++y.cps).toList=_;simp
theorem R7(x:Str):x.length=x.cps.toList.length:=by simp[Str.length]
theorem uI(x y:Str):(x++y).length=x.length+y.length:=by
 rw[R7,xW,aK,<- R7,<- R7]
theorem Let.app(U:Let x)(I:Let y):Let (x++y):=λc O=>by
 rw[xW] at O;rcases aH.mp O with h | h
 ·exact U c h
 ·exact I c h
theorem Let.sls(U:Let x)(y q:Option Int):Let (sls y q x):=λc O=>U c (bd7 (by simpa[Internal.sls] using O))
theorem zr(y c:Option Int)(x:Str):(sls y c x).length=(slc y c x.cps.toList).length:=by
 rw[R7];simp[sls]
theorem Dy(Y:0<=j)(Za:j<=x.length):(sls none (some j) x).length=j.toNat:=by
 rw[zr,xU Y,eZ,<- R7];exact CZ Za
theorem PT(Y:0<=i)(Za:i<=x.length):(sls (some i) (some j) x).length<=x.length-i.toNat:=by
 rw[zr];unfold slc;rw[eZ,ie,<- R7];refine aj (eV _ _) ?_;show x.length-clipAt x.length i<=_;rw[W8 Y,gB (fW.mpr Za)];exact aV _
theorem Let.word(h:Let x)(Za:1<=x.length)(M:x.length<=8):m8 x=true:=by
 unfold m8;simp only[cG,decide_eq_true_eq,bc]
 exact⟨⟨Za,M⟩,h⟩
theorem yP(h:m8 x=true):Let x/\1<=x.length/\x.length<=8:=by
 unfold m8 at h;simp only[cG,decide_eq_true_eq,bc] at h
 exact⟨h.2,h.1.1,h.1.2⟩
theorem Nj:m8 "line" = true:=by k_extra"#"
theorem JZ:m8 "paper" = true:=by k_extra"#"
theorem Rq:m8 "add" = true:=by k_extra"#"
theorem Vq(h:Txt.contains G9 ⟨#[c]⟩=true):c<128:=by
 unfold Txt.contains at h;rw[StrLaws.found_one] at h;have S:G9.cps.toList.all (λc=>decide (c<128))=true:=by k_extra"#"
 exact f4 (bc.mp S c (f4 h))
theorem Let.strOk(h:Let x):PyData.strOk x=true:=by
 unfold PyData.strOk;rw[<- Array.all_toList,bc];exact λc O=>decide_eq_true (eX (Vq (h c O)) (by decide))
set_option tactic.hygienic true in
theorem X4(h:Z a=some o):upd Z a o=Z:=by
 funext b;unfold upd;split
 ·rename_i e;rw[e,h]
 ·rfl
set_option tactic.hygienic true in
theorem bt2(h:∀ b o,b≠a->Z b=some o->c b=some o):Sub (upd Z a x) (upd c a x):=λb o e=>by
 unfold upd at e ⊢
 split
 ·rename_i q;rw[if_pos q] at e;exact e
 ·rename_i q;rw[if_neg q] at e;exact h b o q e
theorem Dp{c:Type}{f:c->V}{l:List c}{k:Nat}(h:(l.map f)[k]?=some x):∃ y∈l,x=f y:=by
 rw[aB] at h;cases q:l[k]? with
 | none=>rw[q] at h;cases h
 | some y=>rw[q] at h;exact⟨y,aL q,(d7 h).symm⟩
section
variable{g:G}{Q:V->Hp->Prop}
theorem Tst.drop(h:Tst g F e J Z (λv Z'=>∃ w,Sub w Z'/\QB v w) (λx Z'=>∃ w,Sub w Z'/\X x w)):Tst g F e J Z QB X:=(λA R s I=>
 lY (h A R s I) (λb y L=>L _ λZ' c D ⟨w,k,q⟩=>(λz_ u=>u w (c.sub k) (D.sub k) q)) λe y L=>L _ λx Z' r c D ⟨w,k,q⟩=>(λz_ u=>u x w (r.sub k) (c.sub k) (D.sub k) q))
end
theorem E4:∀ {l k:List V},l.Nodup->(∀ y∈l,y∈k)->l.length<=k.length
 | [],k,_,_=>aY _
 | x::l,k,hn,c=>by
  refine d5 (dC.mp hn) λh1 h2=>?_
  obtain⟨s,t,rfl⟩:=List.append_of_mem (c x (by simp))
  have:=E4 (l:=l) (k:=s++t) h2 λy I=>by
   have E:=c y (bV _ I);rcases aH.mp E with q | q
   ·exact aH.mpr (.inl q)
   ·k_extra"b2"
    ·subst q;exact absurd I h1
    ·exact aH.mpr (.inr q)
  simp only[aK,bD] at this ⊢
  exact cQ this 1
def q9(y:V):Prop:=∃ i,y=.int i
theorem q9.flat(h:q9 y):flat y=true:=by refine d4 h λi e=>?_;subst e;rfl
theorem q9.pure(h:q9 y):H4 y=true:=by refine d4 h λi e=>?_;subst e;rfl
theorem q9.dep(h:q9 y):dep y=0:=by refine d4 h λi e=>?_;subst e;rfl
theorem q9.flatL:∀ {l:List V},(∀ y∈l,q9 y)->flatL l=true
 | [],_=>rfl
 | x::l,h=>by
  show(Internal.flat x&&Internal.flatL l)=true;rw[(h x (by simp)).flat,q9.flatL λy I=>h y (bV _ I)];rfl
theorem q9.depL:∀ {l:List V},(∀ y∈l,q9 y)->depL l=0
 | [],_=>rfl
 | x::l,h=>by
  have Za:=(h x (by simp)).dep
  have S:=q9.depL (l:=l) λy I=>h y (bV _ I)
  show max (dat x).depth (PyData.depthAll (g7 l))=0;unfold Internal.dep at Za;unfold Internal.depL at S;exact Rw Za S
def E5(F:List V)(x:V):Bool:=(g7 F).any λy=>PyData.eqv y (dat x)
theorem qY{F:List V}(c:∀ y∈F,q9 y)(U:q9 x):E5 F x=true↔x∈F:=by
 unfold E5;rw[Xb,lQ,fj];constructor
 ·rintro q;refine a7 q λy I e=>?_
  have:=(Ci (c y I).pure U.pure).mp e;subst this;exact I
 ·exact λh=>⟨x,h,(Ci U.pure U.pure).mpr rfl⟩
theorem sO{l:List V}(h:∀ y∈l,∃ i,y=.int i):∃ E:List Int,l=E.map .int:=by
 induction l with
 | nil=>exact⟨[],rfl⟩
 | cons y k q=>
  exact d4 (q λz M=>h z (.tail _ M)) λu e=>d4 (h y (.head _)) λi c=>⟨i::u,by rw[e,c];rfl⟩
theorem N5(h:ok z n x=true):∃ w C,x=.tup (.str w::C):=by
 cases n with
 | zero=>exact ff h
 | succ n=>
  cases x with
  | tup l=>
   cases l with
   | nil=>exact ff h
   | cons y l=>
    cases y with
    | str w=>exact⟨w,l,rfl⟩
    | _=>exact ff h
  | _=>exact ff h
theorem t8(h:f9 v a b=true):∃ i,v=.int i/\a<=i/\i<=b:=by
 cases v with
 | int i=>
  exact d5 (bF.mp (show(decide (a<=i)&&decide (i<=b))=true from h)) λZa S=>⟨i,rfl,f4 Za,f4 S⟩
 | _=>exact ff h
theorem tV(h:x4 v=true):∃ x,v=.str x/\m8 x=true:=by
 cases v with
 | str x=>exact⟨x,rfl,h⟩
 | _=>exact ff h
set_option tactic.hygienic true in
theorem By(L:u = "line"):∀ {n:Nat} {v:V},ok z n v=true->∀ y∈g6 n v u,∃ i,y=.int i:=by
 intro n;induction n with
 | zero=>intro v h;exact ff h
 | succ n q=>
  intro v h;refine k9 (N5 h) λw args qa=>?_;subst qa
  refine F9 (mX h) λm hm x T c=>?_
  obtain rfl:n=m:=by exact lB hm
  intro y I;simp only[I8,aH,il,aM] at I
  rcases I with I | ⟨_,⟨r,A,rfl⟩,I⟩
  ·split at I
   ·rename_i e
    simp only[au,bw,or_false] at I
    subst I;have e:w=u:=by simpa using e
    subst e;rw[L,X6] at T;refine a7 (t8 T) λi e _=>?_;exact⟨i,e⟩
   ·cases I
  ·exact q (c r A) y I
theorem z7(h:l.length=1):∃ x,l=[x]:=jX.mp h
theorem H6(h:l.length=2):∃ x y,l=[x,y]:=by
 cases l with
 | nil=>cases h
 | cons x l=>refine d4 (z7 (Nat.succ.inj h)) λy Ja=>?_;subst Ja;exact⟨x,y,rfl⟩
theorem Q6(h:l.length=3):∃ x y t,l=[x,y,t]:=by
 cases l with
 | nil=>cases h
 | cons x l=>refine k9 (H6 (Nat.succ.inj h)) λy t Ja=>?_;subst Ja;exact⟨x,y,t,rfl⟩
theorem DN(hs:siz w=some ((args.length:Int)+1))(hf:fit z w args=true)(hx:x∈args):x∈g9 w args∨(∃ i,x=.int i)∨∃ s,x=.str s:=by
 have hm:=Y1 hs;k_extra"a7"
 clear hs;k_extra"k"
 ·k_extra"u"
  rw[pW] at hf;k_extra"aB"
  k_extra"bd"
 ·k_extra"u"
  rw[oH] at hf;refine a7 (tV hf) λi e N=>?_
  simp at hx;subst hx;exact .inr (.inr ⟨i,e⟩)
 ·k_extra"u"
  rw[X6] at hf;k_extra"aB"
  k_extra"bd"
 ·k_extra"u"
  rw[pI] at hf;k_extra"aB"
  k_extra"bd"
 ·rw[nZ];exact .inl hx
 ·rw[Y9];exact .inl hx
 ·rw[nQ];exact .inl hx
 ·rw[qC];exact .inl hx
 ·k_extra"aG"
  rw[oY] at hf;k_extra"aB"
  have e:=e;subst e;rw[K2];k_extra"au"
  rcases hx with rfl | rfl
  ·exact .inl (by simp)
  ·k_extra"dh"
 ·k_extra"aG"
  rw[pD] at hf;k_extra"aB"
  have e:=e;subst e;rw[K1];k_extra"au"
  rcases hx with rfl | rfl
  ·k_extra"dh"
  ·exact .inl (by simp)
 ·rw[C2];exact .inl hx
 ·obtain⟨a,b,c,rfl⟩:=Q6 (l:=args) (by first | exact hn | exact nY hn | (simp only[bD] at hn;lia))
  rw[Y2] at hf;k_extra"aB"
  have e:=e;clear hn;clear hf;subst e;rw[D0];k_extra"au"
  clear e;rcases hx with rfl | rfl | rfl
  ·k_extra"dh"
  ·exact .inl (by simp)
  ·exact .inl (by simp)
theorem PN(c:siz w=some ((args.length:Int)+1))(T:fit z w args=true)(U:x∈args)(e:x=.tup l):x∈g9 w args:=by
 rcases DN c T U with q | ⟨i,q⟩ | ⟨i,q⟩
 ·exact q
 ·rw[e] at q;cases q
 ·rw[e] at q;cases q
theorem Gp:∀ {l:List Nat} {x:Nat},x∈l->x<=l.sum
 | y::l,x,h=>by
  rw[List.sum_cons];rcases au.mp h with rfl | h
  ·lia
  ·have:=Gp h;exact Nat.le_add_left_of_le this
section
variable{z:Lim}
theorem Cld.t2(M:Cld Z a)(Y:Cld Z b):Cld Z (.tup [a,b]):=.tup (by simp) λx hx=>by
 simp only[au,bw,or_false] at hx;rcases hx with rfl | rfl<;>assumption
theorem Cld.t3(M:Cld Z a)(Y:Cld Z b)(O:Cld Z c):Cld Z (.tup [a,b,c]):=.tup (by simp) λx hx=>by
 simp only[au,bw,or_false] at hx;rcases hx with rfl | rfl | rfl<;>assumption
theorem Cld.t4(M:Cld Z a)(Y:Cld Z b)(O:Cld Z c)(q:Cld Z d):Cld Z (.tup [a,b,c,d]):=.tup (by simp) λx hx=>by
 simp only[au,bw,or_false] at hx;rcases hx with rfl | rfl | rfl | rfl<;>assumption
theorem GR.cld(c:∀ x,L x->m8 x=true)(h:GR z w L d r):Cld Z r:=by
 induction h with
 | num a b=>exact .t2 (.str (by decide)) (.int _)
 | line a=>exact .t2 (.str (by decide)) (.int _)
 | earlier a b=>exact .t2 (.str (by decide)) (.int _)
 | paper a=>exact .t2 (.str (by decide)) (.str (by have:=(yP (c _ a)).2.2;exact aj this (aZ ..)))
 | part _ a b u=>exact .t3 (.str (by decide)) u (.int _)
 | table _ a b u=>exact .t3 (.str (by decide)) (.int _) u
 | twol a _ _ i1 i2=>
  k_extra"ba"
  exact .t3 (.str (by rcases a with rfl | rfl | rfl | rfl<;>decide)) i1 i2
 | twor a _ _ i1 i2=>
  k_extra"ba"
  exact .t3 (.str (by rcases a with rfl | rfl | rfl | rfl<;>decide)) i1 i2
 | wherl _ _ _ i1 i2 q=>exact .t4 (.str (by decide)) i1 i2 q
 | wherr _ _ _ i1 i2 q=>exact .t4 (.str (by decide)) i1 i2 q
 | chol a b _ _ i1 i2=>exact .t4 (.str (by decide)) (.int _) i1 i2
 | chor a b _ _ i1 i2=>exact .t4 (.str (by decide)) (.int _) i1 i2
end
def w7(st:Addr)(Z Z':Hp):Prop:=∀ a o,a≠st->Z a=some o->Z' a=some o
theorem w7.sub(h:w7 st Z c)(k:Sub c q):w7 st Z q:=λa o M e=>k a o (h a o M e)
theorem w7.trans(h:w7 st Z c)(k:w7 st c q):w7 st Z q:=λa o M e=>k a o M (h a o M e)
theorem w7.upd:w7 st Z (upd Z st o):=λa o M e=>by rw[e8 _ _ M];exact e
section
variable{g:G}{vs:List Str}{d:Nat}
end
theorem Few.lt(h:Few z r)(u:Str)(K:ok z 8 r=true):(g6 8 r u).length<64:=bA (h 8 u K) (by decide)
section
variable{g:G}{vs:List Str}{d:Nat}{q:Bool}{Q:V->Hp->Prop}
end
def toI(v:V):Int:=match v with
 | .int i=>i
 | _=>0
def toS(v:V):Str:=match v with
 | .str s=>s
 | _=>aa ""
def W7(n f:Int)(v:V):Int:=match v with
 | .tup l=>if toI (arg l 0)<=n then toI (arg l 1)+(n-toI (arg l 0))*toI (arg l 2) / 100 else f
 | _=>f
def atN(t:V)(n:Int):Int:=match t with
 | .tup l=>l.foldl (W7 n) 0
 | _=>0
structure Yr where
 P:List (Str×Int)
 E:List Int
 T:List Bool
 tb:List V
noncomputable def dS(P:List (Str×Int)):List (Str×V):=P.map λp=>(p.1,.int p.2)
def C6(P:List (Str×Int))(x:Str):Int:=toI ((i9 (dS P) x).getD (.int 0))
def lf(y:Yr)(f:Int->Int)(w:Str)(a:V):Int:=
 if w == "number" then toI a else if w == "paper" then C6 y.P (toS a) else if w == "line" then f (toI a) else y.E.getD (toI a).toNat 0
noncomputable def L8(w:Str)(a b:Int):Int:=if w == "add" then a+b else if w == "take" then a-b else if w == "least" then min a b else max a b
noncomputable def wv(y:Yr)(f:Int->Int):Nat->V->Int
 | 0,_=>0
 | n+1,.tup (.str w::args)=>
  if qd w then lf y f w (arg args 0)
  else if w == "part" then wv y f n (arg args 0)*toI (arg args 1) / 100
  else if w == "table" then atN (y.tb.getD (toI (arg args 0)).toNat .none) (wv y f n (arg args 1))
  else if w == "where" then(if 0<wv y f n (arg args 0) then wv y f n (arg args 1) else wv y f n (arg args 2))
  else if w == "choose" then(if y.T.getD (toI (arg args 0)).toNat false then wv y f n (arg args 2) else wv y f n (arg args 1))
  else L8 w (wv y f n (arg args 0)) (wv y f n (arg args 1))
 | _+1,_=>0
section
variable{y:Yr}{f:Int->Int}{n:Nat}
theorem O6{i:Int}:wv y f (n+1) (.tup [.str "number",.int i])=i:=(if_pos (by k_extra"#")).trans (if_pos (by k_extra"#"))
theorem R9:wv y f (n+1) (.tup [.str "paper",.str x])=C6 y.P x:=(if_pos (by k_extra"#")).trans ((if_neg (by k_extra"#")).trans (if_pos (by k_extra"#")))
theorem P5{i:Int}:wv y f (n+1) (.tup [.str "line",.int i])=f i:=(if_pos (by k_extra"#")).trans ((if_neg (by k_extra"#")).trans ((if_neg (by k_extra"#")).trans (if_pos (by k_extra"#"))))
theorem S2{i:Int}:wv y f (n+1) (.tup [.str "earlier",.int i])=y.E.getD i.toNat 0:=(if_pos (by k_extra"#")).trans ((if_neg (by k_extra"#")).trans ((if_neg (by k_extra"#")).trans (if_neg (by k_extra"#"))))
theorem T3{r:V}{i:Int}:wv y f (n+1) (.tup [.str "part",r,.int i])=wv y f n r*i / 100:=(if_neg (by k_extra"#")).trans (if_pos (by k_extra"#"))
theorem S5{r:V}{i:Int}:wv y f (n+1) (.tup [.str "table",.int i,r])=atN (y.tb.getD i.toNat .none) (wv y f n r):=(if_neg (by k_extra"#")).trans ((if_neg (by k_extra"#")).trans (if_pos (by k_extra"#")))
theorem N1{r t u:V}:wv y f (n+1) (.tup [.str "where",r,t,u])=if 0<wv y f n r then wv y f n t else wv y f n u:=(if_neg (by k_extra"#")).trans ((if_neg (by k_extra"#")).trans ((if_neg (by k_extra"#")).trans (if_pos (by k_extra"#"))))
theorem N2{r t:V}{i:Int}:wv y f (n+1) (.tup [.str "choose",.int i,r,t])=if y.T.getD i.toNat false then wv y f n t else wv y f n r:=(if_neg (by k_extra"#")).trans ((if_neg (by k_extra"#")).trans ((if_neg (by k_extra"#")).trans ((if_neg (by k_extra"#")).trans (if_pos (by k_extra"#")))))
inductive W2:Str->Prop
 | add:W2 "add"
 | take:W2 "take"
 | least:W2 "least"
 | most:W2 "most"
theorem Q2{w:Str}{r t:V}(h:W2 w):wv y f (n+1) (.tup [.str w,r,t])=L8 w (wv y f n r) (wv y f n t):=by
 cases h<;>exact(if_neg (by k_extra"#")).trans ((if_neg (by k_extra"#")).trans ((if_neg (by k_extra"#")).trans ((if_neg (by k_extra"#")).trans (if_neg (by k_extra"#")))))
end
inductive Nd(z:Lim)(n:Nat):V->Prop
 | num (i:Int):Nd z n (.tup [.str "number",.int i])
 | paper (x:Str):Nd z n (.tup [.str "paper",.str x])
 | line (i:Int) (h0:0<=i) (h1:i<z.L):Nd z n (.tup [.str "line",.int i])
 | earlier (i:Int) (h0:0<=i) (h1:i<z.L):Nd z n (.tup [.str "earlier",.int i])
 | part (r:V) (i:Int) (hr:ok z n r=true) (h0:0<=i) (h1:i<=100):Nd z n (.tup [.str "part",r,.int i])
 | table (i:Int) (r:V) (h0:0<=i) (h1:i<z.T) (hr:ok z n r=true):Nd z n (.tup [.str "table",.int i,r])
 | two (w:Str) (r t:V) (h:W2 w) (hr:ok z n r=true) (ht:ok z n t=true):Nd z n (.tup [.str w,r,t])
 | wher (r t u:V) (hr:ok z n r=true) (ht:ok z n t=true) (hu:ok z n u=true):Nd z n (.tup [.str "where",r,t,u])
 | choo (i:Int) (r t:V) (h0:0<=i) (h1:i<z.C) (hr:ok z n r=true) (ht:ok z n t=true):Nd z n (.tup [.str "choose",.int i,r,t])
section
variable{z:Lim}{n:Nat}
theorem P3:arg (x::l) 0=x:=rfl
theorem KD(hn:(args.length:Int)+1=2)(T:fit z "number" args=true):Nd z n (.tup (.str "number" :: args)):=by
 k_extra"aR";rw[pW,P3] at T;refine a7 (t8 T) λi Ja N=>?_;clear hn;clear T;subst Ja
 exact .num i
theorem ZF(hn:(args.length:Int)+1=2)(T:fit z "paper" args=true):Nd z n (.tup (.str "paper" :: args)):=by
 k_extra"aR";rw[oH,P3] at T;refine a7 (tV T) λi Ja N=>?_;clear hn;clear T;subst Ja
 exact .paper i
theorem cr4(hn:(args.length:Int)+1=2)(hf:fit z "line" args=true):Nd z n (.tup (.str "line" :: args)):=by
 k_extra"aR";rw[X6,P3] at hf;k_extra"aq"
 exact .line i h0 (eO h1)
theorem bn6(hn:(args.length:Int)+1=2)(hf:fit z "earlier" args=true):Nd z n (.tup (.str "earlier" :: args)):=by
 k_extra"aR";rw[pI,P3] at hf;refine f6 (t8 hf) λi qa h0 h1=>?_;subst qa
 exact .earlier i h0 (eO h1)
theorem oh{w:Str}(c:W2 w)(A:∀ a,g9 w a=a)(hn:(args.length:Int)+1=3)(q:∀ x∈g9 w args,ok z n x=true):Nd z n (.tup (.str w::args)):=by
 k_extra"bI";rw[A] at q;exact .two w x y c (q _ (.head _)) (q _ (.tail _ (.head _)))
theorem Xq(hn:(args.length:Int)+1=3)(T:fit z "part" args=true)(c:∀ x∈g9 "part" args,ok z n x=true):Nd z n (.tup (.str "part" :: args)):=by
 k_extra"bI";rw[oY] at T;refine f6 (t8 T) λi e Y Za=>?_
 clear hn;clear T;obtain rfl:y=.int i:=e;rw[K2] at c;exact .part x i (c x (.head _)) Y Za
theorem bC7(hn:(args.length:Int)+1=3)(hf:fit z "table" args=true)(c:∀ x∈g9 "table" args,ok z n x=true):Nd z n (.tup (.str "table" :: args)):=by
 k_extra"bI";rw[pD,P3] at hf;k_extra"aq"
 rw[K1] at c;exact .table i y h0 (eO h1) (c y (.head _))
theorem Ws(hn:(args.length:Int)+1=4)(c:∀ x∈g9 "where" args,ok z n x=true):Nd z n (.tup (.str "where" :: args)):=by
 obtain⟨x,y,t,rfl⟩:=Q6 (l:=args) (nY hn);rw[C2] at c;exact .wher x y t (c _ (.head _)) (c _ (.tail _ (.head _))) (c _ (.tail _ (.tail _ (.head _))))
theorem bP2(hn:(args.length:Int)+1=4)(hf:fit z "choose" args=true)(c:∀ x∈g9 "choose" args,ok z n x=true):Nd z n (.tup (.str "choose" :: args)):=by
 obtain⟨x,y,t,rfl⟩:=Q6 (l:=args) (nY hn);rw[Y2,P3] at hf;k_extra"aq"
 rw[D0] at c;exact .choo i y t h0 (eO h1) (c _ (.head _)) (c _ (.tail _ (.head _)))
end
theorem K0{z:Lim}{n:Nat}(h:ok z (n+1) v=true):Nd z n v:=by
 refine k9 (N5 h) λw args qa=>?_;subst qa
 refine F9 (mX h) λm hm hs T c=>?_
 obtain rfl:n=m:=Nat.succ.inj hm;have hm:=Y1 hs;clear h hs;k_extra"a7"
 k_extra"k"
 ·exact KD hn T
 ·exact ZF hn T
 ·exact cr4 hn T
 ·exact bn6 hn T
 ·exact oh .add nZ hn c
 ·exact oh .take Y9 hn c
 ·exact oh .least nQ hn c
 ·exact oh .most qC hn c
 ·exact Xq hn T c
 ·exact bC7 hn T c
 ·exact Ws hn c
 ·exact bP2 hn T c
theorem F8{n:Nat}{w:Str}{r:V}{u:Str}(A:r∈g9 w args):∀ y∈g6 n r u,y∈g6 (n+1) (.tup (.str w::args)) u:=λy I=>by
 rw[I8];exact aH.mpr (.inr (il.mpr ⟨_,aM.mpr ⟨r,A,rfl⟩,I⟩))
theorem bo3{n:Nat}{i:Int}:V.int i∈g6 (n+1) (.tup [.str "line",.int i]) "line":=by
 rw[I8,if_pos (by k_extra"#")]
 exact aH.mpr (.inl (.head _))
def Nms(p:Int->Prop)(n:Nat)(v:V):Prop:=∀ i,V.int i∈g6 n v "line"->p i
section
variable{p:Int->Prop}{n:Nat}{r t u:V}{i:Int}{w:Str}
theorem Nms.line(h:Nms p (n+1) (.tup [.str "line",.int i])):p i:=h i bo3
theorem Nms.part(h:Nms p (n+1) (.tup [.str "part",r,.int i])):Nms p n r:=λj P=>h j (F8 (by rw[K2];simp) _ P)
theorem Nms.table(h:Nms p (n+1) (.tup [.str "table",.int i,r])):Nms p n r:=λj P=>h j (F8 (by rw[K1];simp) _ P)
theorem W2.ins(h:W2 w)(a:List V):g9 w a=a:=by
 cases h
 ·exact nZ a
 ·exact Y9 a
 ·exact nQ a
 ·exact qC a
theorem Nms.two1(c:W2 w)(h:Nms p (n+1) (.tup [.str w,r,t])):Nms p n r:=λj P=>h j (F8 (by rw[c.ins];simp) _ P)
theorem Nms.two2(c:W2 w)(h:Nms p (n+1) (.tup [.str w,r,t])):Nms p n t:=λj P=>h j (F8 (by rw[c.ins];simp) _ P)
theorem Nms.wher1(h:Nms p (n+1) (.tup [.str "where",r,t,u])):Nms p n r:=λj P=>h j (F8 (by rw[C2];simp) _ P)
theorem Nms.wher2(h:Nms p (n+1) (.tup [.str "where",r,t,u])):Nms p n t:=λj P=>h j (F8 (by rw[C2];simp) _ P)
theorem Nms.wher3(h:Nms p (n+1) (.tup [.str "where",r,t,u])):Nms p n u:=λj P=>h j (F8 (by rw[C2];simp) _ P)
theorem Nms.choo1(h:Nms p (n+1) (.tup [.str "choose",.int i,r,t])):Nms p n r:=λj P=>h j (F8 (by rw[D0];simp) _ P)
theorem Nms.choo2(h:Nms p (n+1) (.tup [.str "choose",.int i,r,t])):Nms p n t:=λj P=>h j (F8 (by rw[D0];simp) _ P)
end
theorem Y7{z:Lim}{y:Yr}{f:Int->Int}:∀ {n:Nat} {v:V},ok z n v=true->Nms (λi=>f i=C i) n v->wv y f n v=wv y C n v:=by
 intro n;induction n with
 | zero=>intro v h;exact ff h
 | succ n q=>
  intro v hk h;cases K0 hk with
  | num i=>rw[O6,O6]
  | paper x=>rw[R9,R9]
  | line i=>rw[P5,P5];exact h.line
  | earlier i=>rw[S2,S2]
  | part r i A=>rw[T3,T3,q A h.part]
  | table i r _ _ A=>rw[S5,S5,q A h.table]
  | two w r t c A R=>rw[Q2 c,Q2 c,q A (h.two1 c),q R (h.two2 c)]
  | wher r t u A R L=>rw[N1,N1,q A h.wher1,q R h.wher2,q L h.wher3]
  | choo i r t _ _ A R=>rw[N2,N2,q A h.choo1,q R h.choo2]
noncomputable def tQ(rh:List V)(y:Yr):Nat->Int->Int
 | 0,_=>0
 | k+1,i=>wv y (tQ rh y k) 8 (rh.getD i.toNat .none)
def sol(rh:List V)(y:Yr)(rk:Int->Nat)(i:Int):Int:=tQ rh y (rk i+1) i
structure Lnk(z:Lim)(rh:List V)(rk:Int->Nat):Prop where
 ok:∀ (i:Nat),i<rh.length->Internal.ok z 8 (rh.getD i .none)=true
 dn:∀ (i:Nat),i<rh.length->Nms (λj=>(0<=j/\j<rh.length)/\rk j<rk i) 8 (rh.getD i .none)
theorem Rk{z:Lim}{y:Yr}(h:Lnk z rh rk):∀ (k:Nat) (i:Int),0<=i->i<rh.length->rk i<k->tQ rh y k i=sol rh y rk i:=by
 intro k;induction k using iQ with
 | ind k c=>
  intro i h0 Za K;cases k with
  | zero=>exact absurd K (dX _)
  | succ m=>
   have hi:i.toNat<rh.length:=U8 h0 Za;have e:=bQ h0;refine Y7 (h.ok _ hi) λj hj=>?_
   obtain⟨⟨j0,j1⟩,j2⟩:=h.dn _ hi j hj;rw[e] at j2;rw[c m (dO _) j j0 j1 (aX j2 (cz K)),c (rk i) (K) j j0 j1 j2]
theorem oK{z:Lim}{y:Yr}(h:Lnk z rh rk){i:Nat}(hi:i<rh.length):wv y (sol rh y rk) 8 (rh.getD i .none)=sol rh y rk i:=by
 refine Y7 (h.ok _ hi) λj hj=>?_
 obtain⟨⟨j0,j1⟩,j2⟩:=h.dn _ hi j hj;exact(Rk h _ j j0 j1 j2).symm
theorem yM:(i9 (dS P) x).getD (.int 0)=.int (C6 P x):=by
 unfold C6;cases e:i9 (dS P) x with
 | none=>rfl
 | some v=>
  unfold i9 at e;refine a7 (aR.mp e) λp c Ja=>?_;clear e;subst Ja
  obtain⟨q,-,rfl⟩:=aM.mp (eQ c);rfl
noncomputable def vbm:List Value:=[.type "ValueError",.type "Exception",.type "BaseException",.type "object"]
noncomputable def x8:List Str:=["__getattribute__","__getattr__","__class__"]
class inductive OwnTailC (h:Heap) (bmB:List Value):List Value->Prop
 | base:OwnTailC h bmB bmB
 | own {A:Addr} {c0:Value} {dd:Option Addr} {cd:ClassData} {sl:Array (Option Value)} {mA:Str->Option Value} {tl:List Value} :
   h.get? A=some {cls:=c0,dict:=dd,data:=.cls cd,slots:=sl}->h.Ns cd.ns mA->(∀ n∈x8,mA n=none)->OwnTailC h bmB tl->OwnTailC h bmB (.ref A::tl)
def XOb(g:G)(C:Addr)(bm:List Value):Prop:=
 ∀ x:Prop,(∀ (N:Addr) (nm q:Str) (K:List Value) (c:Bool) (sn:List Str) (sub:List Value) (y:Bool) (u:Option Bool) (dd:Option Addr) (D H A I E:Option Value) (w:Str->Option Value)
  (L:g.h₀.get? C=some (excClassObj nm q C N K bm c sn sub y u dd D H A I E "ValueError.__new__")) (Ja:g.h₀.Ns N w) (M:w "__init__" = none) (O:∀ n∈x8,w n=none) (T:OwnTail g.h₀ vbm bm) (U:OwnTailC g.h₀ vbm bm),x)->x
structure XC(g:G)(x:Str)(C:Addr)(bm:List Value):Prop where
 bound:g.mg x=some (.ref C)
 obj:XOb g C bm
section
variable{g:G}{QS:j5}{XS:n5}
theorem Mi{U:Pos}{args:List Expr}(Ja:XC g x C bm)(K:F.sc.names.lookup x=some .globalImplicit)(H:F.q=true)(X:(x==("__debug__" : Str))=false)
  (h:Evs g F args J Z (λvs c=>vs.length<=sizeLine/\XS x J c) (λx c=>XS x J c)):Ex g F (.Raise (some (.Call (.Name x U) args [] w)) none pos) J Z QS XS:=(λA R s I=>by
 refine Ja.obj _ ?_;k_extra"bJ";refine d5 (h A R s w I) λZa M=>?_
 have P:=PySem.F.excBase_ValueError;refine wpAny_Raise_call_subT (C:=C) (nm:=nm) (q:=q) (N:=N) (bs:=bs) (bm:=bm) (hdct:=hdct) (sn:=sn) (sub:=sub) (ab:=ab) (col:=col) (dd:=dd) (k0:=k0) (k1:=k1) (k2:=k2) (k3:=k3) (k5:=k5)
  P (mN:=mN) (T.hasType P.hasBase) (I.quiet H) M hni
  (I.nG K X Ja.bound ⟨rfl,?_⟩)
 refine s7 M (N9 Za (λvs O Vs c rs E u H=>⟨rfl,by rw[rs.length];exact H.1,E.sim.stays _ _ hC,hN.keeps E.sim.stays,T.keeps E.sim.stays,λS e y=>?_⟩) λj j p=>p.toS)
 refine f6 y.there λt Y j j=>?_
 have D:Step (inF A) f5 c c O {O with heap:=S}:=Step.grow (tk:=O.toks) y.keeps
 refine(λj L=>L x J c (.made e _ (λj L=>L C _ _ rfl (u.nix y.new) ?_ ?_ Y rfl Ja.bound rfl rfl) rfl) (E.keep D (E.sim.grow y.keeps)) ((u.trans D).mono λj h=>h.elim) H.2)
 ·cases q:g.h₀.get? e with
  | none=>rfl
  | some o=>have:=E.sim.stays _ _ q;rw[y.new] at this;exact f8 this
 ·cases q:c e with
  | none=>rfl
  | some o=>refine d4 ((E.sim.objs _ _ q).1.has) λob Q=>?_;rw[y.new] at Q;exact f8 Q)
end
section
variable{M:Model}
theorem bs2{q':Str}{sn:List Str}{U X:Option Value}
  (hC:s.heap.get? C=some (excClassObj nm q C N bs bm hdct sn sub ab col dd k0 k1 k2 k3 k5 Ja))
  (u:s.heap.get? K=some (excClassObj Za q' K N' S c w sn' P R y O U X H Y x I)) (he:s.heap.get? e=some oe) (L:oe.cls=.ref C) (D:c.contains (.type "BaseException")=true)
  (hb:(Value.ref C::bm).contains (.ref K)=b) (hq:Q b s):wpAny M A (excMatches (.ref e) (.ref K)) Q E s:=by
 obtain⟨h,g,d,t,os⟩:=s;have T:(Value.ref K::c).contains (.type "BaseException")=true:=by rw[fL,D,Bool.or_true]
 have f:=tc_notTuple;unfold excMatches
 repeat (first | (with_reducible refine wpAny_loadPart_at he ?_;rw[L]) | with_reducible refine wpAny_loadPart_at u ?_ | (with_reducible refine wpAny_isSubtype_exc u ?_;rw[T]) | (with_reducible refine wpAny_isSubtype_exc hC ?_;rw[hb]) | wp_step)
 cases b<;>first | exact hq | (wp_walk;exact hq)
end
theorem rQ{g:G}(U:XC g x C bm)(hy:XC g y w c)(st:∀ b o,g.h₀.get? b=some o->s.heap.get? b=some o)(P:s.heap.get? a=some Ja)(Za:Ja.cls=.ref C)
  (Y:(Value.ref C::bm).contains (.ref w)=b) (h:Q b s):wpAny (model g.prog g.w) A (excMatches (.ref a) (.ref w)) Q E s:=by
 refine U.obj _ ?_;k_extra"bJ";refine hy.obj _ ?_;rintro N' nm' q' S D sn' I L H O k0' k1' k2' k3' k5' mN' u X R-K -;exact bs2 (st _ _ hC) (st _ _ u) P Za (K.hasType PySem.F.excBase_ValueError.hasBase) Y h
section
variable{g:G}{QS:j5}{XS:n5}
def Blk.loud(F:Blk):Blk:={F with q:=false}
theorem Inv.loud(e:Option Value)(I:Inv g F A env J Z s):Inv g F.loud (A.mark e) env J Z s:=by
 obtain⟨Za,S,L,X,y,C,K,D,u,w,x,c⟩:=I;refine⟨Za,S,L,X,y,C,λq=>(nomatch q),D,u,w,x,c _ ?_⟩
 clear c;rintro Q l H T all;exact(λz_ Ja=>Ja Q l H T all)
theorem Inv.calm(I:Inv g F A env J Z s)(Ja:Inv g F.loud (A.mark e) env P Z' s'):Inv g F A env P Z' s':=by
 obtain⟨Za,S,L,X,x,y,-,C,u,q,w,c⟩:=Ja;refine⟨Za,S,L,X,x,y,I.quiet,C,u,q,w,c _ ?_⟩;clear c;rintro Q l D T all;exact(λz_ H=>H Q l D T all)
def Hnd(g:G)(F:Blk)(q:List ExceptHandler)(x:Str)(J:List (Option V))(Z:Hp)(Q:j5)(X:n5):Prop:=
 ∀ A R s u c e,Inv g F A R J Z s->Step (inF A) (ownOf R) u Z c s->F0 g e x c.heap Z s.heap .none->wpAny (model g.prog g.w) A (handleBy e R q) (I7 g F A R u c Q) (x9 g F A R u c X) s
theorem Tj(h:XS x J Z):Hnd g F [] x J Z QS XS:=(λA R s u Ja e I D Q=>by
 refine j8 I.frs.frame λv l L Za S O=>wpAny_handleBy_nil ?_
 unfold PySem.passOn;have q:=Q;k_extra"p";rintro C oe Y rfl n b hs P hc hx U h0;refine lW (wpAny_field P U e1 ?_);k_extra"bU"
 refine lW (T5 (fo:=R.frame) D I.sim q λH W c=>?_)
 have w:=I.went W;refine W _ ?_;clear W;rintro y K - -;rw[O] at c;exact wpAny_throw (λz_ X=>X x J Z (.on _ c (.inr ⟨l,v,L,Za,S,rfl⟩)) w y h))
theorem cx1{U:Pos}(hx:XC g x C bm)(P:XC g y O c)(K:F.sc.names.lookup y=some .globalImplicit)(S:(y==("__debug__" : Str))=false)
  (Y:(Value.ref C::bm).contains (.ref O)=false) (h:Hnd g F rest x J Z QS XS):Hnd g F (.ExceptHandler (some (.Name y U)) Ja L pos::rest) x J Z QS XS:=(λA R s u H e I D Q=>by
 have w:=Q;k_extra"ao"
 refine wpAny_handleBy_cons (codeAny_handlers_test (Calls.Name_function_global I.fn (by show R.scope.names.lookup y=_;rw[I.scope];exact K) (fB (by rw[I.glob];exact g.ns.keeps I.sim.stays) P.bound ?_) S)) (by intro q;cases q)
 exact rQ hx P I.sim.stays ho hc Y (h A R s u H _ I D w))
theorem Sh(hx:XC g x C bm)(hy:XC g y Y c)(hk:F.sc.names.lookup y=some .globalImplicit)(hd:(y==("__debug__" : Str))=false)
  (hb:(Value.ref C::bm).contains (.ref Y)=true) (h:Exs g F.loud (Za::L) J Z QS λN N N=>False):Hnd g F (.ExceptHandler (some (.Name y np)) none (Za::L) pos::rest) x J Z QS XS:=(λA R s u O e I st Q=>by
 have D:=Q;k_extra"ao"
 refine wpAny_handleBy_cons (codeAny_handlers_test (Calls.Name_function_global I.fn (by show R.scope.names.lookup y=_;rw[I.scope];exact hk) (fB (by rw[I.glob];exact g.ns.keeps I.sim.stays) hy.bound (rQ hx hy I.sim.stays ho hc hb (codeAny_handlers_suite (T5 (A:=A.mark (some (.ref a))) (fo:=none) st I.sim D λK W F₃=>?_)))) hd)) (by intro q;cases q)
 have U:N0 g A (ownOf R) u Z O s K:=by refine W _ ?_;clear W;rintro y m k t;exact(λN k_=>k_ y m k t)
 have w:=I.went U;refine U _ ?_;clear U;rintro S m3 - -;refine lY (h _ R _ (w.loud _)) (λf s4 p=>p _ ?_) λN N p=>p.no
 clear p;rintro f' P X r Ja H q;exact(λN k_=>k_ f' P X r (I.calm Ja) (S.trans H) q))
theorem cq8{i:Nat}{K:Unit->Shared->Prop}(I:Inv g F A env J Z s)(hi:F.vars[i]?=some n)(hl:F.sc.names.lookup n=some .local)
  (h:∀ s',Inv g F A env (aC F.vars.length none) Z s'->Step (inF A) (ownOf env) Z Z s s'->K () s'):wpAny (model g.prog g.w) A (do bindName env n .none;unbindBehindTheSuite env n pos) K E s:=by
 refine a7 I.loc.ns λm H Y=>j8 (id H) λoL es ep hoL S U=>wpAny_nameGoes (by unfold Env.kindOf;rw[I.scope];exact hl) H (by rw[I.fn];rfl) λh' m' T hs'=>?_
 have tu:=K5 H hs';have st:Step (inF A) (ownOf env) Z Z s {s with heap:=h',toks:=s.toks+1}:=by
  refine j8 (id T) λo' R X Za D N=>⟨⟨rfl,rfl⟩,λb o e=>?_,λb o e hZ ho=>⟨o,(hs'.2 b λq=>ho (.inl q)).trans e,.inl rfl⟩,tu,λN N N q=>q⟩
  by_cases hb:b=env.locals
  ·subst hb
   exact⟨o',Za,λN=>⟨_,_,D⟩⟩
  ·k_extra"b9"
 refine h _ ?_ st;k_extra"aA"
 refine⟨I.scope,I.fn,I.glob,I.bltn,I.room,I.units,I.quiet,⟨λb o e=>?_,λa o e=>⟨(I.sim.objs a o e).1.keep tu λob eb=>(hs'.2 a (ne a o e)).trans eb,(I.sim.objs a o e).2⟩⟩,
  ⟨bK ..,⟨m',T,λj y u P L=>?_⟩,I.loc.free,λy c hc=>?_,I.loc.apart,I.loc.other⟩,I.base,I.nd,I.frs.step st⟩
 ·k_extra"aT"
 ·have Ja:u=none:=by
   rw[jG] at L
   split at L
   ·exact(d7 L).symm
   ·exact f8 L
  subst Ja;have w:j<J.length:=by rw[I.loc.len];exact(aF.mp P).1
  rcases Y j y _ P (ak w) with ⟨x,O⟩ | ⟨x,c,r0,hc,Q,O⟩
  ·exact .inl ⟨x,λW C=>by exact f8 C⟩
  ·exact .inr ⟨x,c,r0,hc,Q.sameBut hs' (I.loc.other _ _ hc),λW C=>by exact f8 C⟩
 ·k_extra"bi"
theorem XH{n:Str}{i:Nat}{w:Option V}{b0:Stmt}{X:List Stmt}{rest:List ExceptHandler}(hx:XC g x C bm)(hy:XC g y C' bm')(hk:F.sc.names.lookup y=some .globalImplicit)(hd:(y==("__debug__" : Str))=false)
  (hb:(Value.ref C::bm).contains (.ref C')=true) (hi:F.vars[i]?=some n) (hw:J[i]?=some w) (hl:F.sc.names.lookup n=some .local)
  (h:∀ a,Z a=none->Exs g F.loud (b0::X) (J.set i (some (.ref a))) (upd Z a (.ex x)) (λf N Z'=>QS f (aC F.vars.length none) Z') λN N N=>False):Hnd g F (.ExceptHandler (some (.Name y np)) (some n) (b0::X) pos::rest) x J Z QS XS:=(λA R s u sx e I st Q=>by
 have S:=Q;k_extra"p";rintro C₁ oe a0 rfl hn hbb hs ho hc hx1 hd' h0;clear hn;clear hbb;clear hs;obtain rfl:C₁=C:=by rw[hx.bound] at hx1;cases hx1;rfl
 refine wpAny_handleBy_cons (codeAny_handlers_test (Calls.Name_function_global I.fn (by show R.scope.names.lookup y=_;rw[I.scope];exact hk) (fB (by rw[I.glob];exact g.ns.keeps I.sim.stays) hy.bound (rQ hx hy I.sim.stays ho hc hb (codeAny_handlers_suite_as (T5 (A:=A.mark (some (.ref a))) (fo:=none) st I.sim S λH W Za=>?_)))) hd)) (by intro q;cases q)
 have W':N0 g A (ownOf R) u Z sx s H:=by refine W _ ?_;clear W;rintro y m k t;exact(λN k_=>k_ y m k t)
 have c:=I.went W';refine W' _ ?_;clear W';rintro P m3 - -;refine Za _ ?_;clear Za;rintro a1 vs₁ z₁ - - - - - - - - - - -;refine z₁ _ ?_;clear z₁;rintro C₂ oe2 a02 ha1 hn2 hb₂ hs2 K hc2 hx2 Ja h02;clear hc;clear S;clear ho;clear W;cases ha1;have nd:∀ b,ownOf R b∨inF A b->b≠a:=λb hb q=>by
  subst q;rcases hb with (rfl | ⟨z,hz⟩) | hb
  ·obtain⟨m,⟨o,es,ep,D,O,_⟩,_⟩:=c.loc.ns
   k_extra"4"
  ·refine i6 (c.loc.live z _ hz) λv o D O=>?_
   k_extra"4"
  ·refine g8 hb λl e hl' he hf=>c.frs _ ?_
   rintro e0 l' ha-all;rw[hl'] at ha;replace ha:=d7 ha;clear hl';subst ha;refine(all e he) _ ?_;rintro L-Y - - o D ⟨es,ep,O⟩;rw[hf] at Y;replace Y:=d7 Y;subst Y;k_extra"4"
 have I4:Inv g F A R J (upd Z a (.ex x)) {s with heap:=H}:=by
  refine⟨c.scope,c.fn,c.glob,c.bltn,c.room,c.units,c.quiet,⟨c.sim.stays,λb o e=>?_⟩,⟨c.loc.len,c.loc.ns,λb hb=>?_,c.loc.live,c.loc.apart,c.loc.other⟩,c.base,c.nd,?_⟩
  ·by_cases q:b=a
   ·subst q;rw[d6] at e
    exact d7 e▸⟨⟨C₂,oe2,vs₁,hx2,K,hc2,Ja⟩,hb₂⟩
   ·rw[e8 _ _ q] at e;exact c.sim.objs b o e
  ·rw[e8 _ _ (nd b (.inl hb))];exact c.loc.free b hb
  ·refine c.frs _ ?_;rintro e0 l ha hf all
   k_extra"0"
   rintro L z1 z2 z3 z4 o z5 z6;exact(λN k_=>k_ L z1 z2 z3 (by rw[e8 _ _ (nd L (.inr ⟨_,v,ha,hv,z2⟩))];exact z4) o z5 z6)
 have st4:Step (inF A) (ownOf R) u (upd Z a (.ex x)) sx {s with heap:=H}:=⟨P.same,P.dom,P.keep,P.tups,λb o e hZ=>by rw[e8 _ _ (λq=>by rw[q,hn2] at e;exact f8 e)];exact P.new b o e hZ⟩
 refine mV (I4.loud (some (.ref a))) hi hw (.ref a) λs₅ I₅ st5=>lY ((h a hs2) _ R s₅ I₅) (λf s₆ p=>p _ ?_) λN N p=>p.no
 clear p;rintro f' J' Z' r I₆ st6 q;refine cq8 (I.calm I₆) hi hl λs₇ I₇ U=>?_
 have r':FloRep s₇.heap f f':=by
  cases r with
  | next=>exact .next
  | brk=>exact .brk
  | cont=>exact .cont
  | ret r=>exact .ret (r.mono U.tups)
 exact(λN k_=>k_ f' _ Z' r' I₇ (st4.trans (Step.trans st5 (Step.trans st6 U))) q))
theorem Ug(h:Exs g F w J Z QS (λx C Ja=>Hnd g F (c::Za) x C Ja QS XS)):Ex g F (.Try w (c::Za) [] [] pos) J Z QS XS:=(λA R s I=>by
 refine wpAny_Try_except (lY (h A R s I) (λf O p=>?_) λe O p=>?_)
 ·cases f with
  | next=>
   refine p _ ?_;clear p;rintro f' P u r K D q;cases r;exact wpAny_execs_nil (λz_ k_=>k_ _ P u .next K D q)
  | _=>exact p
 ·k_extra"7";rintro x P u f K D q
  refine j8 K.frs.frame λv l L h1 h2 h3=>vy D K.frs K.sim f h3 λU W Q=>?_
  have y:=K.went W;refine W _ ?_;clear W;rintro H X - -;refine T5 (s:={O with heap:=U}) (fo:=none) H X Q λh₃ W S=>?_
  have T:=y.went W;refine W _ ?_;clear W;rintro Y m3 - -;exact q A R _ _ _ _ T Y S)
end
theorem OwnTailC.keeps{h:Heap}(T:OwnTailC h bmB c)(K:∀ b o,h.get? b=some o->h'.get? b=some o):OwnTailC h' bmB c:=by
 induction T with
 | base=>exact .base
 | own R u x _ y=>exact .own (K _ _ R) (u.keeps K) x y
theorem OwnTailC.hasType{h:Heap}(T:OwnTailC h bmB c)(Y:bmB.contains v=true):c.contains v=true:=by
 induction T with
 | base=>exact Y
 | own _ _ _ _ u=>rw[fL,u,Bool.or_true]
section
variable{w:World}{M:Model}{h:Heap}{g:Array GenState}{d:Drawn}{t:Nat}{a:Addr}{od:Option Addr}{odt:Data}
 {nm q:Str} {C N:Addr} {bs bm bmB:List Value} {hdct:Bool} {sn:List Str} {sub:List Value} {ab:Bool} {col:Option Bool} {dd:Option Addr} {k0 k1 k2 k3 k5:Option Value} {newId:String} {mN:Str->Option Value}
theorem rC(I:n∈x8)
  (L:h.get? C=some (excClassObj nm q C N bs bm hdct sn sub ab col dd k0 k1 k2 k3 k5 newId)) (u:h.Ns N mN) (D:∀ n∈x8,mN n=none) (T:OwnTailC h vbm bm) (F:mroOf (.type "ValueError")=pure vbm)
  (x:typeLookup (.type "ValueError") n=pure y) (Ja:Q y ⟨h,g,d,t,os⟩):wpAny M A (typeLookup (.ref C) n) Q E ⟨h,g,d,t,os⟩:=by
 have c:lookupAlong vbm n=pure y:=by rw[typeLookup_eq,F] at x;exact x
 rw[typeLookup_eq];refine lW (wpAny_mroOf_exc L ?_);rw[lookupAlong_cons];refine lW (wpAny_classOwn_exc L u ?_);rw[D n I];clear L u D x;induction T with
 | base=>rw[c];exact lX Ja
 | own R u H _ K=>
  show wpAny M A (lookupAlong _ n) Q E _;rw[lookupAlong_cons];refine lW (wpAny_classOwn_cls R u ?_);rw[H n I];exact K
theorem tH:mroOf (.type "ValueError")=pure vbm:=by kernel_rfl
theorem Zx:typeLookup (.type "ValueError") "__class__" = pure (some (.builtin "object.__class__")):=by rw[typeLookup_type,builtinLookup_eq_fast];kernel_rfl
theorem Nu:typeLookup (.type "ValueError") "__getattr__" = pure none:=by rw[typeLookup_type,builtinLookup_eq_fast];kernel_rfl
theorem Ph(L:h.get? C=some (excClassObj nm q C N bs bm hdct sn sub ab col dd k0 k1 k2 k3 k5 newId))(T:OwnTailC h vbm bm)
  (hx:h.get? a=some ⟨.ref C,od,odt,osl⟩) (u:R (.ok (.ret (.ref C))) ⟨h,g,d,t,os⟩) :
  codeAny (model prog w) A (.call (.builtin "getset_descriptor.__get__") ⟨[.builtin "object.__class__",.ref a,.ref C],[]⟩) R ⟨h,g,d,t,os⟩:=by
 have c:(Value.ref C::bm).contains (.type (".".intercalate ("object.__class__".cutAt '.').dropLast))=true:=by
  rw[F.owner_object_class,fL,T.hasType (by k_extra"#")];rfl
 refine codeAny_call_builtin F.slot_gs_get.plain F.entry_gs_get (F.slot_gs_get.check _ _ _ _ _ _ _ _ F.typeOf_object_class (F.args_gs_get _ _ _) ?_)
 repeat (any_goals (first | assumption | with_reducible refine wpAny_loadPart_at hx ?_ | (with_reducible refine wpAny_isSubtype_exc L ?_;rw[c]) | wp_step))
 refine⟨Code.quiet_builtin _ (by k_extra"#"),codeAny_builtin F.entry_object_class ?_⟩
 unfold Builtin.«object.__class__»
 repeat (any_goals (first | assumption | with_reducible refine wpAny_loadPart_at hx ?_ | wp_step))
theorem ZL(L:h.get? C=some (excClassObj nm q C N bs bm hdct sn sub ab col dd k0 k1 k2 k3 k5 newId))(T:OwnTailC h vbm bm)
  (U:h.get? a=some ⟨.ref C,od,odt,osl⟩) (y:Q () ⟨h,g,d,t,os⟩):wpAny M A (checkBuiltinCall "BaseException.__getattribute__" ⟨[.ref a,c],[]⟩) Q E ⟨h,g,d,t,os⟩:=by
 have K:builtinKind "BaseException.__getattribute__" = some .slot:=by k_extra"#"
 have u:splitId "BaseException.__getattribute__" = some ("BaseException","__getattribute__"):=by k_extra"#"
 have x:(Value.ref C::bm).contains (.type "BaseException")=true:=by rw[fL,T.hasType (by k_extra"#")];rfl
 have D:=F.args_bexc_ga (.ref a) c;unfold checkBuiltinCall;rw[K,u];refine lW ?_
 ·unfold isInstance
  repeat (first | with_reducible refine wpAny_loadPart_at U ?_ | (with_reducible refine wpAny_isSubtype_exc L ?_;rw[x]) | wp_step)
  exact y
theorem bn3{tk:Tok}(L:h.get? C=some (excClassObj nm q C N bs bm hdct sn sub ab col dd k0 k1 k2 k3 k5 newId))(c:h.Ns N mN)
  (D:∀ n∈x8,mN n=none) (T:OwnTailC h vbm bm) (U:h.get? a=some ⟨.ref C,od,odt,osl⟩) (Ja:Q (.done (.ret (.ref C))) ⟨h,g,d,t,os⟩) :
  wpAny (model prog w) A (Builtin.«object.__getattribute__» ⟨[.ref a,.str "__class__" tk],[]⟩) Q E ⟨h,g,d,t,os⟩:=by
 have u:=F.typeOf_object_class;have y:=F.typeOf_object_class;have H:=F.slot_gs_get.lookup;have I:=F.slot_gs_set.lookup;have x:("__class__" : Str)∈x8:=.tail _ (.tail _ (.head _))
 repeat (any_goals (first | assumption | with_reducible refine wpAny_loadPart_at U ?_ | with_reducible refine rC x L c D T tH Zx ?_ | wp_step))
 refine Ph L T U ?_
 repeat (any_goals (first | assumption | wp_step))
theorem bv1{tk:Tok}(L:h.get? C=some (excClassObj nm q C N bs bm hdct sn sub ab col dd k0 k1 k2 k3 k5 newId))(x:h.Ns N mN)
  (D:∀ n∈x8,mN n=none) (T:OwnTailC h vbm bm) (U:h.get? a=some ⟨.ref C,od,odt,osl⟩) (u:ExcAttrFacts "ValueError") (K:Q (.ref C) ⟨h,g,d,t,os⟩) :
  wpAny (model prog w) A (getAttrBy (.ref a) (.str "__class__" tk) c expr) Q E ⟨h,g,d,t,os⟩:=by
 have Ja:=u.ga.bind (.ref a);have I:(expr&&onTheHeap (Value.builtin "BaseException.__getattribute__"))=false:=by cases expr<;>rfl
 have H:(Value.builtin "BaseException.__getattribute__" == Value.builtin "object.__getattribute__")=false:=by k_extra"#"
 have X:(onTheHeap (Value.ref C)&&Value.builtin "BaseException.__getattribute__" == Value.builtin "object.__getattribute__")=false:=by rw[H];rfl
 have y:("__getattribute__" : Str)∈x8:=.head _;have R:("__getattr__" : Str)∈x8:=.tail _ (.head _)
 repeat (any_goals (first | assumption | with_reducible refine wpAny_loadPart_at U ?_ | with_reducible refine rC y L x D T tH u.ga.lookup ?_ | with_reducible refine rC R L x D T tH Nu ?_ | wp_step))
 refine codeAny_call_builtin u.ga.plain F.entry_bexc_ga (ZL L T U (bn3 L x D T U ?_))
 repeat (any_goals (first | assumption | wp_step))
theorem Jg(L:h.get? C=some (excClassObj nm q C N bs bm hdct sn sub ab col dd k0 k1 k2 k3 k5 newId))(c:h.Ns N mN)
  (D:∀ n∈x8,mN n=none) (T:OwnTailC h vbm bm) (U:h.get? a=some ⟨.ref C,od,odt,osl⟩) (u:Q (some (.ref C)) ⟨h,g,d,t+1,os⟩):wpAny (model prog w) A (getAttr? (.ref a) "__class__") Q E ⟨h,g,d,t,os⟩:=by
 unfold getAttr? getAttrBy?
 repeat (any_goals (first | assumption | with_reducible apply bv1 L c D T U F.excAttr_ValueError | wp_step))
theorem ci4{q':Str}{F:List Value}{dep:Int}{tk:Tok}
  (L:h.get? C=some (excClassObj nm q C N bs bm hdct sn sub ab col dd k0 k1 k2 k3 k5 newId)) (u:h.get? x=some (excClassObj nm' q' x N' R c H sn' F P y O Za k1' k2' k3' k5' I)) (hN:h.Ns N mN)
  (D:∀ n∈x8,mN n=none) (T:OwnTailC h vbm bm) (hx:h.get? a=some ⟨.ref C,od,odt,osl⟩) (Y:(Value.ref C::bm).contains (.ref x)=b) (K:∀ t,Q (.done (.ret (.bool b))) ⟨h,g,d,t,os⟩) :
  wpAny (model prog w) A (Builtin.«isinstance.nested» ⟨[.ref a,.ref x,.int dep tk],[]⟩) Q E ⟨h,g,d,t,os⟩:=by
 have X:(⟨h,g,d,t,os⟩:Shared).TypeIs (.ref x) "type":=⟨_,u,rfl⟩;by_cases he:C=x
 ·clear X;subst he
  have S:b=true:=by rw[<- Y];simp
  rw[S] at K Y;have U:(Value.ref C==Value.ref C)=true:=by simp
  have Ja:=K t
  repeat (any_goals (first | assumption | with_reducible refine wpAny_loadPart_at hx ?_ | wp_step))
 ·have U:(Value.ref C==Value.ref x)=false:=by rw[beq_eq_false_iff_ne];exact λq=>he (Value.ref.inj q)
  cases b with
  | true=>
   have Ja:=K t
   repeat (any_goals (first | assumption | with_reducible refine wpAny_loadPart_at hx ?_ | with_reducible refine wpAny_loadPart_at u ?_ | (with_reducible refine wpAny_isSubtype_exc L ?_;rw[Y]) | wp_step))
  | false=>
   have Ja:=K (t+1)
   repeat (any_goals (first | assumption | with_reducible refine wpAny_loadPart_at hx ?_ | with_reducible refine wpAny_loadPart_at u ?_ | (with_reducible refine wpAny_isSubtype_exc L ?_;rw[Y]) | with_reducible apply Jg L hN D T hx | wp_step))
end
theorem bl8{g:G}{C a:Addr}(O:Z a=some (.ex x))(hx:XC g x C bm)(hy:XC g y K c)
  (hb:(Value.ref C::bm).contains (.ref K)=b) (h:Q (.bool b) Z):mQ g F (λv=>call (.builtin "isinstance") [v,.ref K]) (.ref a) J Z Q X:=(λA env s v I r=>by
 k_extra"bu";refine I5 ((I.sim.objs a _ O).1) λD Ja vs Y ho hc hd=>?_
 obtain rfl:D=C:=by rw[hx.bound] at Y;cases Y;rfl
 refine hx.obj _ ?_;k_extra"bM";refine hy.obj _ ?_;rintro N' nm' q' bs' L sn' sub' ab' U dd' k0' k1' k2' k3' k5' mN' u hN'-hmN'-T';have H:=I.sim.stays;have Za:s.heap.get? a=some ⟨.ref D,Ja.dict,Ja.data,Ja.slots⟩:=by rw[ho,<- hc]
 refine call_isinstance (S:=λz_ R P=>P=s/\∀ t,R (.ok (.ret (.bool b))) {s with toks:=t}) (λprog w A R P p=>d5 p λqa hR=>?_) ⟨rfl,λt=>n7 I h⟩
 clear p;subst qa;obtain⟨hp,gs,dr,tk,os⟩:=P;exact isinstance_outer (ci4 (H _ _ hC) (H _ _ u) (hN.keeps H) hmN (T.keeps H) Za hb hR) (by intro e;cases e))
theorem QR{w:World}{h:Heap}{g:Array GenState}{d:Drawn}{t:Nat}{a:Addr}{od:Option Addr}{odt:Data} 
  {nm:Str} {q:Str} {C:Addr} {N:Addr} {bs:List Value} {bm:List Value} {hdct:Bool} {sn:List Str} {sub:List Value} {ab:Bool} {col:Option Bool} {dd:Option Addr} {k0:Option Value} {k1:Option Value} {k2:Option Value} {k3:Option Value} {k5:Option Value} {newId:String} {dep:Int}{tk:Tok}
  (L:h.get? C=some (excClassObj nm q C N bs bm hdct sn sub ab col dd k0 k1 k2 k3 k5 newId)) (U:h.get? a=some ⟨.ref C,od,odt,osl⟩) (Y:(Value.ref C::bm).contains (.type "ValueError")=true) (u:Q (.done (.ret (.bool true))) ⟨h,g,d,t,os⟩) :
  wpAny (model prog w) A (Builtin.«isinstance.nested» ⟨[.ref a,.type "ValueError",.int dep tk],[]⟩) Q E ⟨h,g,d,t,os⟩:=by
 have F:typeOf (.type "ValueError")=pure (.type "type"):=by kernel_rfl
 have c:(Value.ref C==Value.type "ValueError")=false:=rfl
 repeat (any_goals (first | assumption | with_reducible refine wpAny_loadPart_at U ?_ | (with_reducible refine wpAny_isSubtype_exc L ?_;rw[Y]) | wp_step))
theorem Tn{g:G}{C a:Addr}(y:Z a=some (.ex x))(U:XC g x C bm)
  (h:Q (.bool true) Z):mQ g F (λv=>call (.builtin "isinstance") [v,.type "ValueError"]) (.ref a) J Z Q X:=(λA H s v I r=>by
 k_extra"bu";refine I5 ((I.sim.objs a _ y).1) λc Ja vs Za P O hd=>?_
 obtain rfl:c=C:=by rw[U.bound] at Za;cases Za;rfl
 refine U.obj _ ?_;k_extra"bM";refine call_isinstance (S:=λz_ R D=>D=s/\R (.ok (.ret (.bool true))) s) (λprog w A R D p=>d5 p λL K=>?_) ⟨rfl,n6 I h⟩
 clear p;subst L;obtain⟨hp,Y,u,tk,os⟩:=D;exact isinstance_outer (QR (odt:=Ja.data) (od:=Ja.dict) (osl:=Ja.slots) (I.sim.stays _ _ hC) (by rw[P,<- O]) (by rw[fL,T.hasType (by k_extra"#")];rfl) K) (by intro e;cases e))
theorem Hz{U:Pos}(hb:Bi g x (.builtin "isinstance"))(u:g.mg t=some (.ref C))(hk:sc.names.lookup x=some .globalImplicit)(D:sc.names.lookup t=some .globalImplicit)
  (h:Ev g ⟨sc,vs,d,q⟩ e J Z (λv c=>mQ g ⟨sc,vs,d,q⟩ (λy=>call (.builtin "isinstance") [y,.ref C]) v J c Q X) X) (hd:(x==("__debug__" : Str))=false) (w:(t==("__debug__" : Str))=false)
  (he:∀ env,mF [e,.Name t tp] env=(false,eval e env)::mF [.Name t tp] env):Ev g ⟨sc,vs,d,q⟩ (.Call (.Name x U) [e,.Name t tp] [] pos) J Z Q X:=(λA env s I=>by
 k_extra"ay";k_extra"bq"
 refine cJ hp (s7 hp (wpAny_items_cons (pgo (h A env s I) (λv sw V c r I1 st1 hQ=>wpAny_items_cons (I1.nG D w u (wpAny_items_nil ?_))) λN N p=>p) (he env)))
 exact lY (hQ A env sw v I1 r) (λN N p=>p.step st1) λN N p=>p.step st1)
open PySem PySem.W
structure OC(g:G)(x:Str)(C:Addr)(K:Frag)(cd:ClassData):Prop where
 bound:g.mg x=some (.ref C)
 inn:K.In g.h₀
 cls:clsIn K C=some cd
 hasd:cd.hasDict=true
 ga:findIn K (.ref C) "__getattribute__" = some (some (.builtin "object.__getattribute__"))
 sa:findIn K (.ref C) "__setattr__" = some (some (.builtin "object.__setattr__"))
 ov:plainOver K C=true
noncomputable def B4(fs:List (Str×V))(n:Str)(v:V):List (Str×V):=(n,v)::fs.filter (λp=>p.1 != n)
theorem Kw{K:Frag}{C:Addr}{cd:ClassData}{name:Str}{v:Value}(O:clsIn K C=some cd)(T:findIn K (.ref C) name=some none)(c:cd.hasDict=true)(hl:lookIn name od=some (some v)):findObj K C (some od) name=some (.value v):=by
 unfold findObj PySem.W.ownOf;rw[O,T];simp only[Option.bind_some,c,if_true,hl]
theorem Uv{ep:Nat}{name:Str}{v:Value}(c:o.data=.dict M ep)(h:nsFind M name=some v):lookIn name o=some (some v):=by
 unfold lookIn;rw[c];unfold nsFind findBy at h;rw[<- lR] at h;cases e:M.toList.find? (λx=>x.key.isStr name) with
 | none=>rw[e] at h;cases h
 | some d=>rw[e] at h;dsimp only;rw[e];exact congrArg some h
theorem QL:∀ (L:List DictEntry) (l:List Str),(∀ e∈L,∃ n t,e.key=.str n t)->(L.Pairwise λa b=>∀ n,a.key.isStr n=true->b.key.isStr n=true->False)->(∀ e∈L,∀ n,e.key.isStr n=true->n∈l)->L.length<=l.length:=by
 intro L;induction L with
 | nil=>intro l _ _ _;exact aY _
 | cons e L H=>
  refine λl Za S u=>k9 (Za e (.head _)) λn t w=>?_
  have A:e.key.isStr n=true:=by rw[w];simp[Value.isStr]
  have y:=u e (.head _) n A;have D:=List.pairwise_cons.mp S;have:=H (l.erase n) (λc q=>Za c (.tail _ q)) D.2 λc q E T=>(List.mem_erase_of_ne (λz:E=n=>D.1 c q n A (by rw[<- z];exact T))).mpr (u c (.tail _ q) E T)
  rw[List.length_erase_of_mem y] at this;have:=List.length_pos_of_mem y;rw[bD];exact Nat.add_le_of_le_sub this ‹_›
theorem bR0{M:Array DictEntry}{l:List Str}(k:StrKeys M)(u:UniqKeys M)(h:∀ n,nsFind M n≠none->n∈l):M.size<=l.length:=by
 rw[<- aJ];refine QL _ l (λe w=>k e (iR.mp w)) u λe w n c=>h n λq=>?_
 unfold nsFind findBy at q;rw[jY,Array.find?_eq_none] at q;exact q e (iR.mp w) c
theorem Qi{v:Value}(r:Rep h v w):handedIn v=true:=by
 cases w with
 | none=>rw[r.ofNone];rfl
 | bool b=>rw[r.ofBool];rfl
 | int i=>refine d4 r.ofInt λt e=>?_;rw[e];rfl
 | str s=>refine d4 r.ofStr λt e=>?_;rw[e];rfl
 | tup l=>refine j8 r.ofTup λa M n e N N=>?_;rw[e];rfl
 | ref a=>rw[r.ofRef];rfl
section
variable{g:G}{cls name:Str}{C x d:Addr}{K:Frag}{cd:ClassData}{fs:List (Str×V)}{v:V}
theorem Wj(c:OC g cls C K cd)(E:findIn K (.ref C) name=some none)(hx:Z x=some (.ob cls d))(H:Z d=some (.na fs))(S:(name,v)∈fs)(h:Q v Z):mQ g F (λu=>getAttr u name true) (.ref x) J Z Q X:=λA R s u I r=>by
 rw[r.ofRef];k_extra"di"
 k_extra"cO";rw[<- e] at c E;refine f6 (I.sim.objs d _ H).1 λm Ja q hl=>x5 Ja λP M ep Za y N N T=>a7 (hl _ S) λw L D=>get_value (K:=K) (λa o e=>I.sim.stays a o (c.inn a o e)) ⟨ho,rfl,rfl,Za⟩ c.ga (Kw c.cls E c.hasd (Uv y ((T name).trans L))) (Qi D) ?_
 exact λN O=>O v Z D (I.keep Step.toks I.sim) Step.toks h
theorem Jb{z:Value}{P:Hp->Prop}(c:OC g cls C K cd)(hn:takerIn K C name=some none)(hx:Z x=some (.ob cls d))(hd:Z d=some (.na fs))(hz:((B4 fs name v).map (·.1)).length<=sizeLine+1)(hQ:P (upd Z d (.na (B4 fs name v))))(I:Inv g F A env J Z s)(rx:Rep s.heap xv (.ref x))(rz:Rep s.heap z v) :
  wpAny (model g.prog g.w) A (setAttr xv name z) (λN s'=>∃ D,Inv g F A env J D s'/\Step (inF A) (ownOf env) Z D s s'/\P D) E s:=by
 rw[rx.ofRef];k_extra"di"
 k_extra"cO";rw[<- e] at c hn;refine f6 (I.sim.objs d _ hd).1 λm Y O hl=>?_
 have Q:K.In s.heap:=λa o e=>I.sim.stays a o (c.inn a o e)
 refine x5 (id Y) λod es ep Za hdd hsk N hf=>?_
 have IA:InstAt s.heap x (instObj C' d) C' (some od):=⟨ho,rfl,rfl,Za⟩;refine set_plain (K:=K) Q IA c.sa (osa_open (K:=K) (s:={s with toks:=s.toks+1}) Q IA c.ov hn λb=>lW (lX (lW (lW (wpAny_loadPart (s:={s with toks:=s.toks+1}) ho (lW ((looks_clsIn (M:=model g.prog g.w) Q c.cls) _ _ _ {s with toks:=s.toks+1} (λN N e=>e) ?_)))))))
 rw[c.hasd];refine lX (a:=some d) (lW (lX (lW (wpAny_nsSet1 (s:={s with toks:=s.toks+1}) Y λh' T L=>?_))))
 have tu:=K5 Y.ns L;have y:∀ n,(if n=name then some z else m n)≠none->n∈(B4 fs name v).map (·.1):=λn q=>by
  by_cases e:n=name
  ·rw[e];exact .head _
  ·rw[if_neg e] at q
   refine a7 (aM.mp (O n q)) λp hp qa=>?_;subst qa
   exact dM (.tail _ (dD.mpr ⟨hp,bne_iff_ne.mpr e⟩))
 refine x5 (id T) λo' S R Ja H k2 u2 f2=>lW (wpAny_lookBehind Ja (by rw[H];exact pastItsLine_dict (aj (bR0 k2 u2 λn q=>y n λe=>q ((f2 n).trans e)) hz)) (lX ?_))
 have U:∀ p∈B4 fs name v,∃ u,(if p.1=name then some z else m p.1)=some u/\Rep h' u p.2:=λp hp=>by
  rcases au.mp hp with q | q
  ·rw[q];exact⟨z,if_pos rfl,rz.mono tu⟩
  ·exact d5 (dD.mp q) λq1 q2=>a7 (hl p q1) λw hw rw'=>⟨w,(if_neg (bne_iff_ne.mp q2)).trans hw,rw'.mono tu⟩
 obtain⟨I4,st4⟩:=X0 (fr:=inF A) (own:=ownOf env) (tk:=s.toks+1+1) (o':=.na (B4 fs name v)) I hd ⟨_,T,y,U⟩ L tu λN N N=>⟨o',Ja,S,R,H⟩
 exact⟨_,I4,st4,hQ⟩
end
structure OCl(g:G)(x:Str)(as:List Str)(ms:List (Str×Str)):Prop where
 at':∀ P_:Prop,(∀ (C:Addr) (K:Frag) (cd:ClassData),OC g x C K cd->makesIn K C=true->keepIn K (.ref C)=true->findIn K (.ref C) "__getattr__" = some none->(∀ n∈as,findIn K (.ref C) n=some none)->
  (∀ p∈ms,∃ f,findIn K (.ref C) p.1=some (some (.ref f))/\typeIn K (.ref f)=some (.type "function")/\g.fn p.2=some (.ref f))->P_)->P_
theorem bt9{ep:Nat}{name:Str}(c:o.data=.dict Y ep)(w:StrKeys Y)(h:nsFind Y name=none):lookIn name o=some none:=by
 unfold lookIn;rw[c];unfold nsFind findBy at h;rw[jY,<- lR] at h;dsimp only
 rw[h];refine if_neg λq=>a7 (fj.mp q) λe u q=>k9 (w e (iR.mp u)) λn t z=>?_
 unfold DictEntry.refKey at q;rw[z] at q;exact az q
section
variable{g:G}{Q:V->Hp->Prop}{cls name f:Str}{as:List Str}{ms:List (Str×Str)}{args:List Expr}{np:Pos}{y:Str}
theorem bz1(c:OCl g cls as ms)(Y:name∈as)(h:Ev g F (.Name y np) J Z (λv w=>∃ x d H u,v=.ref x/\w x=some (.ob cls d)/\w d=some (.na H)/\(name,u)∈H/\Q u w) X) :
  Ev g F (.Attribute (.Name y np) name pos) J Z Q X:=λA R s I=>by
 rw[arm_eval_Attribute];refine lW (pgo (h A R s I) (λv O V w r E D S=>bG4 S λx d H u Ja U T L q=>?_) λN N p=>p)
 clear S;rw[Ja] at r;refine lW (wpAny_standAt (lW (my (c.at' _ ?_))));rintro C K cd Za - - - M -;exact lY (Wj Za (M _ Y) U T L q A R O v E r) (λr P p=>lW (lX (lX (p.step D)))) λN N p=>p.step D
theorem KC{D:Expr}(c:OCl g cls as ms)(hn:name∈as)
  (h:Ev g F D J Z (λv u=>Ev g F (.Name y np) J u (λw S=>∃ x d U,w=.ref x/\S x=some (.ob cls d)/\S d=some (.na U)/\((B4 U name v).map (·.1)).length<=sizeLine+1/\Y .next J (upd S d (.na (B4 U name v)))) (λx u=>Za x J u)) (λx u=>Za x J u))
  (hs:∀ env,swapsWith D (some (.Attribute (.Name y np) name p')) pos.line env=pure false):Ex g F (.Assign [.Attribute (.Name y np) name p'] D pos) J Z Y Za:=λA env s I=>by
 refine plainObj_wpAny_Assign_Attribute (pgo (h A env s I) (λv O Vv u rv E H R=>pgo (R A env O E) (λa s₂ Va S ra M T Ja=>?_) λN N p=>(p.step H).toS) λN N p=>p.toS) (hs env)
 have L:=H.trans T;refine x5 Ja λx d U qa hx hd hz q=>?_;clear Ja;rw[qa] at ra
 refine c.at' _ ?_;rintro C K cd oc - - - ha -;have ht:takerIn K C name=some none:=by unfold takerIn;rw[ha _ hn];rfl
 exact lY (Jb (P:=λZ=>Y .next J Z) oc ht hx hd hz q M ra (rv.mono T.tups)) (λN s' p=>f6 p λZ' I' st' q=>(λN k_=>k_ .next J Z' .next I' ((L.mono λN h=>h.elim).trans st') q)) λN N p=>p
theorem Kq(c:OCl g cls as ms)(hm:(name,f)∈ms)(hf:∃ Ja O scope,FnAt g f Ja O scope)
  (h:Ev g F o J Z (λv D=>∃ x d fs,v=.ref x/\D x=some (.ob cls d)/\D d=some (.na fs)/\name∉fs.map (·.1)/\Evs g F args J D (λvs S=>d8 g F.d F.q f (.ref x::vs) S Q X) X) X)
  (hline:(apos.endLine==pos.line)=true) (hbase:∀ env,attributeBase o name env (eval o env)=eval o env)
  (hfew:∀ env,((backTo pos (mF args env)).all (λx=>!x.1)&&(backToKw pos (keywordEach [] env)).all (λx=>x.1.isSome)
   && decide (args.length+([]:List Keyword).length+(if ([]:List Keyword).isEmpty then 0 else 1)<30))=true) :
  Ev g F (.Call (.Attribute o name apos) args [] pos) J Z Q X:=λA env s I=>by
 rw[arm_eval_Call,hbase];refine lW (pgo (h A env s I) (λov sw V D r E M hq=>x5 hq λx d fs qa hx hd hnm hev=>?_) λN N p=>p)
 clear hq;rw[qa] at r;k_extra"bu";refine lW (wpAny_standAt ?_);have U:methodCallForm (args.length+([]:List Keyword).length) (backTo pos (mF args env)) (backToKw pos (keywordEach [] env))=true:=hfew env;have hpos:methodCallPos true o env apos pos=pure pos:=by unfold methodCallPos;simp[hline]
 unfold methodCall;rw[U];refine c.at' _ ?_;rintro C K cd oc - - hga-hms;refine f6 (hms _ hm) λfa P hty R=>Q3 hf λJa O scope hfa=>hfa.at' _ ?_
 rintro a ob nm qn pm cdv doc hm' ho Za hcd;have e:=Value.ref.inj (d7 (hm'.symm.trans R));clear hms;rw[<- e] at P hty R;refine a7 (E.sim.objs x _ hx).1 λC' hC hox=>?_
 have e:=Value.ref.inj (d7 (hC.symm.trans oc.bound));rw[<- e] at oc hga P;refine f6 (E.sim.objs d _ hd).1 λm hmn hsup hl=>x5 (id hmn) λod es ep hod hdd hsk huk hfd=>?_
 have Y:=bt9 hdd hsk ((hfd name).trans (cu λq=>hnm (hsup name q)))
 refine lW (my (method_fn (K:=K) (od:=some od) (λa o e=>E.sim.stays a o (oc.inn a o e)) ⟨hox,rfl,rfl,hod⟩ oc.ga hga P hty (by show(lookIn name od).map _=_;rw[Y];rfl) (lW (wpAny_of_eq hpos (d5 (hev A env sw pos E) λhw hp=>?_)))))
 refine jF (o:=ob) (s7 hp (lY hw (λvs s₂ p_=>p_ _ λVs S rs w T q=>⟨⟨w.sim.stays _ _ ho,Za⟩,?_⟩) λN N p=>p.step M))
 have L:=M.trans T;refine wpAny_call (mq (q A s₂ (.ref x::vs) a R w.room w.units w.quiet w.sim w.frs.l (.cons (.ref x) rs)) λr s₃ H=>?_)
 cases r with
 | ok fl=>
  cases fl with
  | ret v=>
   refine H _ ?_;clear H;rintro V u r sm st q';exact(λN k_=>k_ V u r (w.keep st sm) (L.trans st) q')
  | _=>exact H.elim
 | error e=>
  refine H _ ?_;clear H;rintro x u r sm st q';exact(λN k_=>k_ x u (r.step L) (w.keep st sm) (L.trans st) q')
theorem zY(I:Inv g F A env J Z s)(r:u5 g (s.heap.push o) s.heap.objs.size ao) :
  Inv g F A env J (upd Z s.heap.objs.size ao) {s with heap:=s.heap.push o}/\Step (inF A) f5 Z (upd Z s.heap.objs.size ao) s {s with heap:=s.heap.push o}:=by
 have D:Step (inF A) f5 Z (upd Z s.heap.objs.size ao) s {s with heap:=s.heap.push o}:=
  ⟨⟨rfl,rfl⟩,(Step.push (fr:=inF A) (own:=f5) (Z:=Z)).dom,(Step.push (fr:=inF A) (own:=f5) (Z:=Z)).keep,(Step.push (fr:=inF A) (own:=f5) (Z:=Z)).tups,λb o e hZ=>by
   rw[e8 _ _ (bR (bC e))];exact hZ⟩
 refine⟨I.keep D ⟨I.sim.push.stays,λa U e=>?_⟩,D⟩
 by_cases ha:a=s.heap.objs.size
 ·subst ha
  rw[d6] at e;refine d7 e▸⟨r,?_⟩;cases q:g.h₀.get? s.heap.objs.size with
  | none=>rfl
  | some o=>have:=I.sim.stays _ _ q;rw[u7] at this;exact f8 this
 ·rw[e8 _ _ ha] at e
  exact I.sim.push.objs a U e
theorem bJ9(e:h.get? a=some {cls:=.type "dict",data:=.dict #[]}):u5 g h a (.na []):=
 ⟨λz_=>none,⟨_,#[],0,e,rfl,λx U=>absurd U (Array.not_mem_empty x),List.Pairwise.nil,λn=>rfl⟩,λn q=>absurd rfl q,λp M=>by cases M⟩
theorem Oq(A:Around)(C:Addr)(vs:List Value):(A.under (.builtin "type.__call__" ⟨.ref C::vs,[]⟩)).depth=A.depth+1/\(A.under (.builtin "type.__call__" ⟨.ref C::vs,[]⟩)).frames=A.frames/\(A.under (.builtin "type.__call__" ⟨.ref C::vs,[]⟩)).handled=A.handled/\(A.under (.builtin "type.__call__" ⟨.ref C::vs,[]⟩)).units<=A.units+8:=by
 refine⟨?_,rfl,rfl,cM (show 1+3*0<=8 by decide) _⟩
 ·rfl
theorem Rg(c:OCl g cls as ms)(hm:(("__init__" : Str),f)∈ms)(hk:F.sc.names.lookup cls=some .globalImplicit)(hdb:(cls==("__debug__" : Str))=false)
  (h:Evs g F args J Z (λvs u=>1<=F.d/\∀ d,u d=none->∀ x,upd u d (.na []) x=none->d8 g (F.d-1) F.q f (.ref x::vs) (upd (upd u d (.na [])) x (.ob cls d)) (λv S=>v=.none/\Q (.ref x) S) noX) X) :
  Ev g F (.Call (.Name cls np) args [] pos) J Z Q X:=λA R s I=>by
 refine c.at' _ ?_;rintro C K cd oc hmk hkp - - hms;refine f6 (hms _ hm) λfa hfi hty hfn=>lZ (I.nG hk hdb oc.bound (d5 (h A R s pos I) λhw hp=>?_))
 have hp':((backTo pos (mF args R)).any (·.1)||([]:List (Option Str×Sem Value)).any (·.1.isNone))=false:=by rw[hp];rfl
 refine callWith_of (P:=K.In) hp' (keeps_K hkp) (s7 hp (lY hw (λvs O p_=>p_ _ λVs u rs E L q=>⟨λa o e=>E.sim.stays a o (oc.inn a o e),d5 q λU q=>?_⟩) λN N p=>p))
 have X1:K.In O.heap:=λa o e=>E.sim.stays a o (oc.inn a o e)
 obtain⟨H,T⟩:=zY (o:=emptyDict) (ao:=.na []) E (bJ9 (aO _ rfl));obtain⟨Y,Za⟩:=zY (o:=instObj C O.heap.objs.size) (ao:=.ob cls O.heap.objs.size) H ⟨C,oc.bound,aO _ rfl⟩;have q:=q _ E.sim.fresh _ H.sim.fresh;have D:=(L.trans T).trans Za;have rs3:=rs.mono (T.trans Za).tups;refine G6 (Oq A C vs) λu1 u2 u3 u4=>?_
 have room:=E.room;have M:=E.units;obtain⟨Ja,gg,dd,tt,oo⟩:=O;rw[List.nil_append];refine wpAny_call (make_core (makes_of X1 hmk) (looks_findIn X1 hfi) (λself=>bind_fn X1 self hty) (.inl rfl) ?_)
 have e:(Ja.push emptyDict).objs.size=Ja.objs.size+1:=km ..;dsimp only at q Y D rs3
 rw[e] at q Y D;refine mq (q _ _ (.ref (Ja.objs.size+1)::vs) fa hfn (by rw[u1];exact KQ U room) (Qh U u4 M) (λhq=>u3.trans (Y.quiet hq)) Y.sim ?_ (.cons (.ref _) rs3)) λr s₃ w=>?_
 ·refine Y.frs.l _ ?_;rintro l ha all
  exact λN k_=>k_ l (u2.trans ha) all
 ·have hin:inF (A.under (.builtin "type.__call__" ⟨.ref C::vs,[]⟩))=inF A:=by funext b;unfold inF;rw[u2]
  cases r with
  | ok fl=>
   cases fl with
   | ret v=>
    refine w _ ?_;clear w;rintro V Z' r sm st hh;refine d5 hh λqa q'=>?_;clear hh;rw[qa] at r
    rw[hin] at st;exact⟨r.ofNone,(λN k_=>k_ (.ref _) Z' (.ref _) (Y.keep st sm) (D.trans st) q')⟩
   | _=>exact w.elim
  | error e=>refine w _ ?_;rintro _ _ _ _ _ q';exact q'.elim
end
noncomputable def tS(p:Str×Int):V:=.tup [.str p.1,.int p.2]
theorem cv3:∀ {c:List Value},c.length=l.length->(∀ (i:Nat) (v:Value) (x:V),c[i]?=some v->l[i]?=some x->Rep h v x)->d9 h c l:=by
 induction l with
 | nil=>intro c e _;rw[cY.mp e];exact .nil
 | cons x l ih=>
  intro c e k;cases c with
  | nil=>cases e
  | cons v c=>exact .cons (k 0 v x rfl rfl) (ih (Nat.succ.inj e) λi v x a b=>k (i+1) v x a b)
section
variable{g:G}{Q:V->Hp->Prop}
def Xi(g:G)(F:Blk)(A:Around)(env:Env)(J:List (Option V))(Z:Hp)(s:Shared)(R:List (Str×V)->Hp->Prop)(w:Value)(P:Shared):Prop:=
 ∀ x:Prop,(∀ (a c:Addr) (L:List (Str×V)) (C:List (Str×Value)) (ep:Nat) (u:Hp) (e:w=.ref c) (S:P.heap.IsItemsView c a) (D:P.heap.DictAt (PySem.strKind g.prog g.w) a C ep) (r:KVs P.heap C L) (i:Inv g F A env J u P) (y:Step (inF A) f5 Z u s P) (q:R L u),x)->x
theorem vP{D:Pos}(h:Ev g F o J Z (λv x=>∃ a L,v=.ref a/\x a=some (.ds L)/\R L x) X)(u:(D.endLine==pos.line)=true)
  (q:∀ env,attributeBase o (aa "items") env (eval o env)=eval o env) (I:Inv g F A env J Z s) :
  wpAny (model g.prog g.w) A (eval (.Call (.Attribute o (aa "items") D) [] [] pos) env) (Xi g F A env J Z s R) (j6 g F A env J Z s X) s:=by
 refine wpAny_Call_method (q env) rfl u PySem.F.plainAttrs_dict PySem.F.slot_dict_items PySem.F.type_dict_items (pgo (h A env s I) (λov O V x r y H Ja=>?_) λN N p=>p)
 refine g8 Ja λa L S c T=>?_
 rw[S] at r Ja;k_extra"bu";refine k9 ((y.dict (kdS g) c).has) λY ep P=>⟨⟨_,P,rfl⟩,λb e=>by cases e;exact⟨_,P,rfl⟩,?_⟩
 refine(y.dict (kdS g) c) _ ?_;rintro C K S U;refine cJ rfl (PySem.evalArgs_none (call_meetsIn PySem.F.slot_dict_items K.typeIs PySem.F.entry_dict_items (PySem.F.args_dict_items_1 _) (meets_dict_items (PySem.strKind g.prog g.w) a U) ⟨⟨C,K⟩,?_⟩));exact d4 K.dictAt λep M=>λN Za=>Za a _ L C ep x rfl ⟨_,aO _ rfl,rfl,rfl⟩ (M.push _) (S.mono (Step.push (fr:=inF A) (own:=f5) (Z:=Z)).tups) (y.keep Step.push y.sim.push) H.push' T
theorem vX(O:PySem.W.KdxG (PySem.strKind g.prog g.w) kvs y h as)(hl:as.length=kvs.length)(r:KVs h kvs L):d9 h (as.map Value.ref) (L.map F1):=by
 k_extra"be"
 refine cv3 (by rw[aq,aq,hl,e0]) λi v x D T=>?_
 rw[aB] at D T;refine a7 (aR.mp D) λa P Ja=>?_;clear D;subst Ja
 refine a7 (aR.mp T) λp M Ja=>?_;clear T;subst Ja
 obtain⟨c,k,x,H,C,I⟩:=O.pairs i a P;have K:k=p.1:=by
  have:(kvs.map (·.1))[i]?=(L.map (·.1))[i]?:=congrArg (·[i]?) r.1
  rw[aB,aB,H,M] at this;exact d7 this
 refine a7 (r.2.get (i:=i) (x:=p.2) (by rw[aB,M];rfl)) λu q R=>?_
 rw[aB,H] at q;have q:=d7 q;subst q;refine d4 (Value.isStrOf_shape C) λt Ja=>?_;clear q;clear C;subst Ja
 rw[K] at I;exact .tup I (.cons (.str _ t) (.cons R .nil))
theorem ca4(hb:Bi g x (.type "list"))(hk:F.sc.names.lookup x=some .globalImplicit)(hd:(x==("__debug__" : Str))=false)(U:F.q=true)
  (h:Ev g F o J Z (λv q=>∃ a L,v=.ref a/\q a=some (.ds L)/\L.length<=10000/\∀ b,q b=none->Q (.ref b) (upd q b (.L (L.map F1)))) X) (u:(apos.endLine==p'.line)=true)
  (hbase:∀ env,attributeBase o (aa "items") env (eval o env)=eval o env):Ev g F (.Call (.Name x np) [.Call (.Attribute o (aa "items") apos) [] [] p'] [] pos) J Z Q X:=λA env s I=>by
 k_extra"ay";refine callWith_excType rfl (s7 rfl (wpAny_items_cons (lY (vP (R:=λL q=>L.length<=10000/\∀ b,q b=none->Q (.ref b) (upd q b (.L (L.map F1)))) h u hbase I) (λw P p=>wpAny_items_nil ?_) λN N p=>p) rfl))
 k_extra"7";rintro a vw L kvs ep q rfl S hd r y T ⟨Y,O⟩;k_extra"be"
 refine PySem.W.kdx_call (y.quiet U) S hd (by rw[e0];exact aj Y (by decide)) λM D K c as C Za hl Ja H=>?_
 refine l8.step T (K6 (s':={P with heap:=M,toks:=D}) y ⟨C,rfl,rfl⟩ (u7 _) Za ?_ O)
 rw[H];exact vX Ja hl (r.mono λb vs n e=>C b _ e)
end
noncomputable def A9{c:Type}(n:Nat)(b:Nat->Nat->Bool):PySem.W.KasT c->Option c
 | .ret a=>some a
 | .ask i j k=>bif decide (i<n)&&(decide (j<n) && !(i==j)) then A9 n b (k (b i j)) else none
theorem Ui{c:Type}(O:∀ i j (C:Bool->Shared->Prop),i<n->j<n->i≠j->C (b i j) s->cmp i j C s){Q:c->Shared->Prop}{a:c}:∀ t:PySem.W.KasT c,A9 n b t=some a->Q a s->t.kasWp cmp Q s:=by
 intro t;induction t with
 | ret x=>intro e q;have e:=d7 e;subst e;exact q
 | ask i j k u=>
  intro e q;have e:(bif decide (i<n)&&(decide (j<n) && !(i==j)) then A9 n b (k (b i j)) else none)=some a:=e;cases z:decide (i<n)&&(decide (j<n) && !(i==j)) with
  | false=>rw[z] at e;exact f8 e
  | true=>
   rw[z] at e;k_extra"cv";exact O i j _ (f4 z1) (f4 z2) (by simpa using z3) (u _ e q)
theorem Zb{u:Type}(h:∀ i j,i<n->j<n->i≠j->b i j=c i j):∀ t:PySem.W.KasT u,A9 n b t=A9 n c t:=by
 intro t;induction t with
 | ret x=>rfl
 | ask i j k q=>
  show(bif decide (i<n)&&(decide (j<n) && !(i==j)) then A9 n b (k (b i j)) else none)=(bif decide (i<n)&&(decide (j<n) && !(i==j)) then A9 n c (k (c i j)) else none);cases z:decide (i<n)&&(decide (j<n) && !(i==j)) with
  | false=>rfl
  | true=>
   k_extra"cv";show A9 n b (k (b i j))=A9 n c (k (c i j));rw[h i j (f4 z1) (f4 z2) (by simpa using z3),q]
def ni(c q C u x y:Bool)(i j:Nat):Bool:=if i<j then[c,q,C,u,x,y].getD (j*(j-1) / 2+i) false else ![c,q,C,u,x,y].getD (i*(i-1) / 2+j) false
def kTr(n:Nat)(b:Nat->Nat->Bool):Bool:=(bh n).all λi=>(bh n).all λj=>(bh n).all λk=>i==j||j==k||i==k || !(b i j&&b j k)||b i k
def kOk(n:Nat)(b:Nat->Nat->Bool)(o:Option (Array Nat)):Bool:=match o with
 | none=>false
 | some p=>(p.size==n)&&(p.toList.isPerm (bh n)&&decide (p.toList.Pairwise λi j=>b i j=true))
theorem RC:∀ n,n<5->∀ c q C u x y:Bool,kTr n (ni c q C u x y)=true->kOk n (ni c q C u x y) (A9 n (ni c q C u x y) (PySem.W.kas_sort n))=true:=by k_extra"#"
def ltP(p q:Str×Int):Prop:=p.1.cps.toList<q.1.cps.toList
noncomputable def pz:Str×Int:=(⟨#[]⟩,0)
def kB(ps:List (Str×Int))(i j:Nat):Bool:=decide ((ps.getD i pz).1.cps.toList<(ps.getD j pz).1.cps.toList)
theorem Cv{ps:List (Str×Int)}(q:(ps.map (·.1)).Nodup)(c:i<ps.length)(P:j<ps.length)(u:i≠j):(ps.getD i pz).1≠(ps.getD j pz).1:=λe=>by
 have Za:(ps.map (·.1))[i]?=some (ps.getD i pz).1:=by rw[aB,aP,ak c];rfl
 have S:(ps.map (·.1))[j]?=some (ps.getD i pz).1:=by rw[e,aB,aP,ak P];rfl
 exact u (sZ q Za S)
theorem VV{ps:List (Str×Int)}(x:(ps.map (·.1)).Nodup)(c:i<ps.length)(P:j<ps.length)(u:i≠j):kB ps i j = !kB ps j i:=by
 unfold kB;have ne:(ps.getD i pz).1.cps.toList≠(ps.getD j pz).1.cps.toList:=λe=>Cv x c P u (bt6 e)
 rcases jB ((ps.getD i pz).1.cps.toList<(ps.getD j pz).1.cps.toList) with q | q
 ·rw[decide_eq_true q,decide_eq_false (List.lt_asymm q)];rfl
 ·rw[decide_eq_false q,decide_eq_true];· rfl
  rcases jB ((ps.getD j pz).1.cps.toList<(ps.getD i pz).1.cps.toList) with z | z
  ·exact z
  ·exact absurd (List.le_antisymm (List.not_lt.mp z) (List.not_lt.mp q)) ne
theorem Ad{b:Nat->Nat->Bool}(h:i<j)(P:j<4):ni (b 0 1) (b 0 2) (b 1 2) (b 0 3) (b 1 3) (b 2 3) i j=b i j:=by
 match j,i,h with
 | 1,0,_=>rfl
 | 2,0,_=>rfl
 | 2,1,_=>rfl
 | 3,0,_=>rfl
 | 3,1,_=>rfl
 | 3,2,_=>rfl
 | j+4,_,_=>exact absurd P (by lia)
 | 1,i+1,h=>exact absurd h (by lia)
 | 2,i+2,h=>exact absurd h (by lia)
 | 3,i+3,h=>exact absurd h (by lia)
 | 0,i,h=>exact absurd h (dX _)
theorem Wq{ps:List (Str×Int)}(L:(ps.map (·.1)).Nodup)(D:ps.length<=4):∃ p:Array Nat,A9 ps.length (kB ps) (PySem.W.kas_sort ps.length)=some p/\p.toList.Perm (bh ps.length)/\p.toList.Pairwise (λi j=>kB ps i j=true):=by
 have y:∀ i j,i<ps.length->j<ps.length->i≠j->kB ps i j=ni (kB ps 0 1) (kB ps 0 2) (kB ps 1 2) (kB ps 0 3) (kB ps 1 3) (kB ps 2 3) i j:=λi j x P u=>by
  rcases Nat.lt_or_gt_of_ne u with q | q
  ·exact(Ad q (Eb D P)).symm
  ·rw[VV L x P u,<- Ad (b:=kB ps) q (Eb D x)]
   unfold ni;rw[if_pos q,if_neg (Nat.lt_asymm q)]
 have O:kTr ps.length (ni (kB ps 0 1) (kB ps 0 2) (kB ps 1 2) (kB ps 0 3) (kB ps 1 3) (kB ps 2 3))=true:=by
  refine bc.mpr λi x=>bc.mpr λj P=>bc.mpr λk K=>?_
  rw[bY] at x P K;by_cases I:i=j
  ·simp[I]
  by_cases C:j=k
  ·simp[C]
  by_cases Ja:i=k
  ·simp[Ja]
  rw[<- y i j x P I,<- y j k P K C,<- y i k x K Ja];unfold kB;simp only[fJ,Bool.not_eq_true',Bool.and_eq_false_iff,decide_eq_false_iff_not,decide_eq_true_eq]
  rcases jB ((ps.getD i pz).1.cps.toList<(ps.getD j pz).1.cps.toList) with R | R
  ·rcases jB ((ps.getD j pz).1.cps.toList<(ps.getD k pz).1.cps.toList) with H | H
   ·exact .inr (List.lt_trans R H)
   ·exact .inl (.inr (.inr H))
  ·exact .inl (.inr (.inl R))
 have c:=RC ps.length (fP D) _ _ _ _ _ _ O;rw[<- Zb y] at c;cases e:A9 ps.length (kB ps) (PySem.W.kas_sort ps.length) with
 | none=>rw[e] at c;exact absurd c az
 | some p=>
  rw[e] at c;have c:=c;obtain⟨-,c⟩:=bF.mp c;obtain⟨Za,S⟩:=bF.mp c;have M:=List.isPerm_iff.mp Za;refine⟨p,rfl,M,?_⟩;refine List.Pairwise.imp_of_mem (fun{i j} x P z=>?_) (List.Pairwise.and (f4 S) (M.nodup_iff.mpr ir))
  rw[y i j (bY.mp (M.mem_iff.mp x)) (bY.mp (M.mem_iff.mp P)) z.2];exact z.1
theorem sH(a:Rep h v (tS p)){C:Prop}(k:∀ (c:Addr) (vs:Array Value) (n:Nat) (t u:Tok),v=.ref c->h.get? c=some (seqObj "tuple" vs n)->vs.toList=[.str p.1 t,.int p.2 u]->C):C:=by
 refine j8 a.ofTup λc vs n e P r=>g8 r.two λx y q r1 r2=>?_
 refine d4 r1.ofStr λt D=>d4 r2.ofInt λu K=>?_
 exact k c vs n t u e P (by rw[q,D,K])
section
variable{w:World}
theorem aY1(Ja:Rep s.heap x (tS p))(K:Rep s.heap y (tS q))(L:p.1≠q.1)(h:R (decide (p.1.cps.toList<q.1.cps.toList)) s):wpAny (model prog w) A (keyLt' (tuples' true) x y) R E s:=by
 refine sH Ja λc U n t u e P I=>sH K λT S m M O H D C=>?_
 rw[e,H];refine PySem.W.kat_lt P rfl D rfl ?_;rw[I,C];exact PySem.W.kat_cons (eqBool_str (PySem.W.kat_go (λz=>absurd (beq_iff_eq.mp z) L) λz=>PySem.W.kat_no (oneLt_str h)))
theorem bJ7{ps:List (Str×Int)}(r:d9 s.heap vs (ps.map tS)):∃ y,(∀ v∈y,∃ x t,v=.str x t)/\y.length=ps.length/\PySem.W.KatTups s.heap vs y:=by
 induction ps generalizing vs with
 | nil=>rw[r.ofNil];exact⟨[],λv hv=>(by cases hv),rfl,.nil⟩
 | cons p ps H=>
  refine g8 r.ofCons λv I e r1 r2=>sH r1 λc Ja n t u D P C=>?_
  refine f6 (H r2) λy Za L S=>?_
  rw[e,D];refine⟨.str p.1 t::y,λv hv=>?_,congrArg (· + 1) L,.cons P rfl rfl (by rw[<- aU,C];rfl) S⟩
  rcases au.mp hv with q | q
  ·exact⟨_,_,q⟩
  ·exact Za v q
theorem RW{ps:List (Str×Int)}(r:d9 s.heap vs (ps.map tS))(q:ps≠[]){Q:SortKind->Shared->Prop}(h:Q (tuples' true) s):wpAny (model prog w) A (keyKind' vs.toArray) Q E s:=by
 refine f6 (bJ7 r) λu c hl R=>PySem.W.kat_kind (T:=.type "str") R (by rw[hl];exact List.length_pos_iff.mpr q) (λv S=>?_) (by decide) h
 obtain⟨n,t,e⟩:=c v S;rw[e];exact .now
theorem zu{q:Type}{c:Prop}[Decidable c]{x y:Sem q}{Q:q->Shared->Prop}(Za:c->wpAny M A x Q E s)(S:¬c->wpAny M A y Q E s):wpAny M A (if c then x else y) Q E s:=by
 by_cases e:c
 ·rw[if_pos e];exact Za e
 ·rw[if_neg e];exact S e
theorem FZ{c:Type}(l:List c)(d:c):(bh l.length).map (λi=>l.getD i d)=l:=by
 apply gO;intro i;rw[aB];by_cases h:i<l.length
 ·rw[dK h,ak h,iH,aP,ak h];rfl
 ·rw[cO (by rw[bO];exact bU h),cO (bU h)];rfl
theorem tO{vs:List Value}{ps:List (Str×Int)}(r:d9 h vs (ps.map tS))(c:i<ps.length):Rep h (vs.getD i .none) (tS (ps.getD i pz)):=by
 refine a7 (r.get (i:=i) (x:=tS (ps.getD i pz)) (by rw[aB,aP,ak c];rfl)) λv e q=>?_
 rw[aP,e];exact q
theorem Ol{vs:List Value}{ps:List (Str×Int)}(T:s.heap.get? a=some (seqObj "list" vs.toArray n))(r:d9 s.heap vs (ps.map tS))(hd:(ps.map (·.1)).Nodup)(K:ps.length<=4)
  (h:∀ (out:Array Value) (Ja:List (Str×Int)),d9 s.heap out.toList (Ja.map tS)->Ja.Perm ps->Ja.Pairwise ltP->P (.done (.ret .none)) {s with heap:=sortedHeap s.heap a vs out}) :
  wpAny (model prog w) A (Builtin.«list.sort» ⟨[.ref a],[]⟩) P E s:=by
 k_extra"cU"
 have ha:=bC T;rw[list_sort_plain];refine lW (listItems_at T rfl (lW (listUpdate_at T rfl ?_ (by rw[cZ,hlen];exact aj K (by decide)))))
 obtain⟨e1,c⟩:∃ e1,(s.heap.update a (bW λN=>#[])).get? a=some (seqObj "list" #[] e1):=⟨_,get?_update_seq T (λN=>#[])⟩
 refine lW (seqEpoch_at c rfl (lW (wpAny_newTuple ?_ (by rw[hlen];exact aj K (by decide)))))
 refine lW (wpAny_newList (my ?_));have u:(((s.heap.update a (bW λN=>#[])).push (seqObj "tuple" vs.toArray 0)).push (seqObj "list" #[] 0)).get? a=some (seqObj "list" #[] e1):=
  aD _ (aD _ c)
 have tu:l7 s.heap (((s.heap.update a (bW λN=>#[])).push (seqObj "tuple" vs.toArray 0)).push (seqObj "list" #[] 0)):=λb xs m e=>by
  have hb:b≠a:=λq=>by rw[q,T] at e;have:=congrArg Obj.cls (d7 e);simp at this
  exact aD _ (aD _ (by rw[iT _ _ _ _ hb];exact e))
 show wpAny (model prog w) A _ P E {s with heap:=((s.heap.update a (bW λN=>#[])).push (seqObj "tuple" vs.toArray 0)).push (seqObj "list" #[] 0)}
 generalize hH:((s.heap.update a (bW λN=>#[])).push (seqObj "tuple" vs.toArray 0)).push (seqObj "list" #[] 0)=L at u tu ⊢
 have fin:∀ p:List Nat,p.Perm (bh ps.length)->(p.Pairwise λi j=>kB ps i j=true)->P (.done (.ret .none)) {s with heap:=L.update a (bW λN=>(p.map λi=>vs.getD i .none).toArray)}:=λp M Za=>by
  have hm:∀ i∈p,i<ps.length:=λi U=>bY.mp (M.mem_iff.mp U)
  have:=h (p.map λi=>vs.getD i .none).toArray (p.map λi=>ps.getD i pz) ?_ ?_ ?_
  ·unfold sortedHeap at this;rw[hH] at this;exact this
  ·clear M Za
   induction p with
   | nil=>exact .nil
   | cons i p ih=>exact .cons (tO r (hm i (du ..))) (ih λj Y=>hm j (bV _ Y))
  ·have:=M.map λi=>ps.getD i pz
   rwa[FZ] at this
  ·rw[List.pairwise_map];exact List.Pairwise.imp (fun{i j} z=>by unfold kB at z;unfold ltP;exact f4 z) Za
 extract_lets jp0 jp
 have H:∀ kd:SortKind,(2<=vs.length->kd=tuples' true)->wpAny (model prog w) A (jp kd) P E {s with heap:=L}:=λkd O=>by
  refine lW (lY (Q:=λr I=>I={s with heap:=L}/\failedOf r.2=none/\∃ p:List Nat,(arrOf r.2).map (·.2)=(p.map λi=>vs.getD i Value.none).toArray/\p.Perm (bh ps.length)/\(p.Pairwise λi j=>kB ps i j=true)) ?_ ?_ λN N e=>e)
  ·by_cases S:vs.toArray.size<2
   ·rw[if_pos S,StateT.run_pure]
    rw[cZ] at S;refine lX ⟨rfl,rfl,bh ps.length,?_,.refl _,?_⟩
    ·show(pairsOf vs).map (·.2)=_
     rw[<- hlen,FZ];apply Array.toList_inj.mp;rw[Array.toList_map,pairsOf_toList,jz (aV _)]
    ·rw[<- hlen]
     match vs,S with
     | [],_=>exact .nil
     | [x],_=>exact .cons (λy hy=>by cases hy) .nil
     | _::_::_,S=>exact absurd S (by simp)
   ·rw[if_neg S]
    rw[cZ] at S;have e:=O (dJ.mp S);clear h;clear O;subst e;obtain⟨p,R,M,hpw⟩:=Wq hd K;refine PySem.W.kat_run (ks:=vs) (vs:=vs) (G:=λq I=>I={s with heap:=L}/\q=p) (Q:=λD I=>I={s with heap:=L}/\failedOf D=none/\∃ p:List Nat,(arrOf D).map (·.2)=(p.map λi=>vs.getD i Value.none).toArray/\p.Perm (bh ps.length)/\(p.Pairwise λi j=>kB ps i j=true))
     rfl (dJ.mp S) (by rw[hlen];exact bA K (by decide)) (λq D I N har hf hq=>⟨hq.1,hf,p.toList,?_,M,hpw⟩) ?_
    ·rw[<- hq.2];exact PySem.W.kat_snds rfl har
    ·rw[hlen]
     exact Ui (n:=ps.length) (b:=kB ps) (λi j C U Y hij hC=>aY1 (tO (r.mono tu) U) (tO (r.mono tu) Y) (Cv hd U Y hij) hC) _ R ⟨rfl,rfl⟩
  ·clear hd;rintro⟨⟨⟩,D⟩ I ⟨rfl,hf,p,he,M,Za⟩
   refine lW (seqEpoch_at u rfl ?_);refine lW (listUpdate_at u rfl ?_ (hsz2:=by
    show((arrOf D).map _).size<=_;rw[he,cZ,aq,M.length_eq,bO];exact aj K (by decide)))
   show wpAny _ _ (match failedOf D with | some e=>_ | x=>_) _ _ _
   rw[hf];refine zu (λe=>absurd e (by simp)) λN=>?_
   have:=fin p M Za;rw[<- he] at this;exact lX this
 clear_value jp
 refine zu (λe=>lW (lX (H _ λq=>?_))) λe=>lW (RW (r.mono tu) ?_ (H _ λN=>rfl))
 ·rw[cZ] at e;lia
 ·clear r;clear K;clear fin;rintro rfl;rw[cZ,hlen] at e;simp at e
theorem Mz(P:h.get? a=some (seqObj "list" vs.toArray n)):l7 h (sortedHeap h a vs out):=λb c m e=>
 (sortedHeap_old (λq=>by rw[q,P] at e;have:=congrArg Obj.cls (d7 e);simp at this) (bC e)).trans e
theorem zJ{Q:Value->Shared->Prop} (h:wpAny (model prog w) A.in1 (collect x) (λvs s'=>∃ ps:List (Str×Int),d9 s'.heap vs (ps.map tS)/\(ps.map (·.1)).Nodup/\ps.length<=4/\∀ (out:Array Value) (Ja:List (Str×Int)),d9 (sortedHeap (s'.heap.push (seqObj "list" vs.toArray 0)) s'.heap.objs.size vs out) out.toList (Ja.map tS)->Ja.Perm ps->Ja.Pairwise ltP->
   Q (.ref s'.heap.objs.size) {s' with heap:=sortedHeap (s'.heap.push (seqObj "list" vs.toArray 0)) s'.heap.objs.size vs out}) E s):wpAny (model prog w) A (call (.builtin "sorted") [x]) Q E s:=by
 k_extra"aQ";refine lW (m:=checkCount "sorted" 1 1 _) (lX (lW (lY h (λvs s' y=>?_) λN N e=>e)))
 refine F9 y λps r u c q=>?_
 k_extra"cU"
 refine lW (wpAny_newList ?_ (by rw[hlen];exact aj c (by decide)))
 k_extra"ah";have C:l7 s'.heap (s'.heap.push (seqObj "list" vs.toArray 0)):=λb D m e=>aD _ e
 refine lW (my (wpAny_call_entry slot_list_sort ⟨_,hoL,rfl⟩ entry_list_sort (Ol (s:={s' with heap:=s'.heap.push (seqObj "list" vs.toArray 0)}) hoL (r.mono C) u c λout Ja Za S L=>⟨_,rfl,?_⟩) (args_list_sort _)))
 refine lX ⟨_,rfl,q out Ja (Za.mono (Mz hoL)) S L⟩
end
section
variable{g:G}{Q:V->Hp->Prop}
theorem bB6{ps:List (Str×Int)}(c:Z a=some (.L (ps.map tS)))(x:(ps.map (·.1)).Nodup)(q:ps.length<=4)(h:∀ (b:Addr) (Ja:List (Str×Int)),Z b=none->Ja.Perm ps->Ja.Pairwise ltP->Q (.ref b) (upd Z b (.L (Ja.map tS)))) :
  Cl g F (.builtin "sorted") [.ref a] J Z Q X:=(λA env s vs I rs=>by
  obtain⟨_,rfl,r0⟩:=rs.one;k_extra"br";obtain⟨items,M,r⟩:=(I.sim.objs a _ c).1;have hl:s.heap.IsList a items.toList.toArray:=by rw[iK];exact M.isList
  have y:items.toList.length<=sizeLine:=by rw[r.length,aq];exact aj q (by decide)
  have x1:Ext s {s with heap:=(s.heap.push (seqObj "list" #[] 0)).update s.heap.objs.size (bW (· ++ items.toList.toArray))}:=⟨λb o e=>by
   k_extra"am"
   rw[iT _ _ _ _ (bR (bC e))];exact aD _ e,rfl,rfl⟩
  refine zJ (collect_list hl ?_ y);refine⟨ps,r.mono λb C n e=>x1.heap b _ e,x,q,λout Ja Za S L=>?_⟩
  obtain⟨e,u⟩:=sortedHeap_at (out:=out) (vs:=items.toList) (n:=0) (h:=(((s.heap.push (seqObj "list" #[] 0)).update s.heap.objs.size (bW (· ++ items.toList.toArray))).push (seqObj "list" items.toList.toArray 0)))
   (a:=((s.heap.push (seqObj "list" #[] 0)).update s.heap.objs.size (bW (· ++ items.toList.toArray))).objs.size) (aO _ rfl)
  refine K6 I (x1.trans oW) (oN ?_) u Za λb Y=>h b Ja Y S L
  rw[Heap.size_update,size_push'];lia)
theorem Yv(hb:Bi g x (.builtin "sorted"))(hk:F.sc.names.lookup x=some .globalImplicit)(hd:(x==("__debug__" : Str))=false)(hq:F.q=true)
  (h:Ev g F o J Z (λv c=>∃ (a:Addr) (ps:List (Str×Int)),v=.ref a/\c a=some (.ds (ps.map λp=>(p.1,V.int p.2)))/\(ps.map (·.1)).Nodup/\ps.length<=4/\∀ (b:Addr) (Ja:List (Str×Int)),c b=none->Ja.Perm ps->Ja.Pairwise ltP->Q (.ref b) (upd c b (.L (Ja.map tS)))) X) (u:(apos.endLine==p'.line)=true)
  (hbase:∀ env,attributeBase o (aa "items") env (eval o env)=eval o env):Ev g F (.Call (.Name x np) [.Call (.Attribute o (aa "items") apos) [] [] p'] [] pos) J Z Q X:=λA env s I=>by
 refine lZ (I.nB hk hd hb.1 hb.2 ?_);refine cJ rfl (s7 rfl (wpAny_items_cons (lY (vP (R:=λL c=>∃ ps:List (Str×Int),L=(ps.map λp=>(p.1,V.int p.2))/\(ps.map (·.1)).Nodup/\ps.length<=4/\∀ (b:Addr) (Ja:List (Str×Int)),c b=none->Ja.Perm ps->Ja.Pairwise ltP->Q (.ref b) (upd c b (.L (Ja.map tS))))
  (h.mono λv c ⟨a,ps,S,U,Y⟩=>⟨a,_,S,U,ps,rfl,Y⟩) u hbase I) (λw P p=>wpAny_items_nil ?_) λN N p=>p) rfl))
 k_extra"7";rintro a vw L C ep c rfl hv hd r y T ⟨ps,rfl,hn,M,hQ⟩;have O:C.length=ps.length:=by have:=congrArg List.length r.1;rwa[aq,aq,aq] at this
 show wpAny _ A (call (.builtin "sorted") [.ref vw]) _ _ P;refine zJ (PySem.W.kdx_collect (A:=A.in1) (y.quiet hq) hv hd (by rw[O];exact aj M (by decide)) λH tk K D hl hG=>?_)
 have tu:l7 P.heap H:=λb vs n e=>D b _ e
 refine⟨ps,?_,hn,M,λout Ja Za h2 h3=>?_⟩
 ·have:=vX hG hl (r.mono tu)
  rw[cR] at this;exact this
 ·refine l8.step T ?_
  have x1:Ext P {P with heap:=H,toks:=tk}:=⟨D,rfl,rfl⟩
  obtain⟨e,he⟩:=sortedHeap_at (out:=out) (vs:=K.map Value.ref) (n:=0) (h:=H.push (seqObj "list" (K.map Value.ref).toArray 0)) (a:=H.objs.size) (aO _ rfl);refine K6 y (x1.trans oW) ?_ he Za λb hb=>hQ b Ja hb h2 h3
  cases q:P.heap.get? H.objs.size with
  | none=>rfl
  | some o=>have:=D _ _ q;rw[u7] at this;exact f8 this
end
theorem abP{c:Sort _}{x:c}{G:c->Prop}(k:∀ P:c->Prop,(∀ y,G y->P y)->P x):G x:=k G λz_ h=>h
inductive Item where
 | fn (k:Nat)
 | int (i:Int)
 | str (s:Str)
 | bi (id:String)
 | ty (id:String)
 | dict (D:List (Str×Int))
 | cls (C:Addr) (bm:List Value)
 | mth (k:Nat)
 | ob (as:List Str) (ms:List (Str×Str))
abbrev Tab:=List (Str×Item)
def P7(g:G)(x:Str):Item->Prop
 | .fn k=>FnAt g x (dAt g.prog k).params (dAt g.prog k).body (dAt g.prog k).scope/\∃ v,g.mg x=some v
 | .int i=>Gi g x i
 | .str s=>Gs g x s
 | .bi id=>Bi g x (.builtin id)
 | .ty id=>Bi g x (.type id)
 | .dict D=>Gd g x D
 | .cls C q=>XC g x C q
 | .mth k=>FnAt g x (dAt g.prog k).params (dAt g.prog k).body (dAt g.prog k).scope
 | .ob c u=>OCl g x c u
class inductive TabOK (g:G):Tab->Prop
 | nil:TabOK g []
 | cons {x:Str} {it:Item} {T:Tab} (h:P7 g x it) (r:TabOK g T):TabOK g ((x,it)::T)
theorem TabOK.at'{T:Tab}(h:TabOK g T):∀ {x:Str} {Y:Item},T.lookup x=some Y->P7 g x Y:=by
 induction h with
 | nil=>intro x Y e;cases e
 | @cons y q T h r c=>
  intro x Y e;rw[cD] at e;cases I:x==y with
  | true=>rw[I] at e;cases e;rw[beq_iff_eq.mp I];exact h
  | false=>rw[I] at e;exact c e
theorem no{c:Type}{t:c}{P:Prop}(h:none=some t):P:=nomatch h
structure EP where
 name:Option Str:=none
 const:Option Const:=none
 bin:Option (Expr×Operator×Expr):=none
 un:Option (UnaryOp×Expr):=none
 bool:Option (BoolOp×List Expr×Pos):=none
 cmp:Option (Expr×List CmpOp×List Expr):=none
 tup:Option (List Expr):=none
 L:Option (List Expr):=none
 sub:Option (Expr×Expr):=none
 slc:Option (Option Expr×Option Expr×Option Expr):=none
 call:Option (Expr×List Expr×List Keyword×Pos):=none
 attr:Option (Expr×Str×Pos):=none
 comp:Option (Expr×List Comprehension×Scope):=none
 dict:Option (List (Option Expr)×List Expr):=none
 star:Bool:=false
 set:Bool:=false
 odd:Bool:=false
noncomputable def EP.z:EP:={}
noncomputable def EP.o:EP:={odd:=true}
def ep(e:Expr):EP:=Expr.casesOn (motive_1:=λN=>EP) e (λo l p=>{bool:=some (o,l,p)}) (λN N N=>.z) (λl o r N=>{bin:=some (l,o,r)}) (λo r N=>{un:=some (o,r)}) (λN N N N=>.z) (λN N N N=>.o) (λk v N=>{dict:=some (k,v)}) (λN N N=>{set:=true,odd:=true}) (λe l s N=>{comp:=some (e,l,s),odd:=true}) (λN N N N=>.o) (λN N N N N=>.o) (λN N N N=>.z) (λN N=>.z) (λN N=>.z) (λN N=>.z) (λl o r N=>{cmp:=some (l,o,r)}) (λf a k p=>{call:=some (f,a,k,p)}) (λN N N N=>.z) (λN N=>.z) (λc N N=>{const:=some c}) (λo x p=>{attr:=some (o,x,p)}) (λa b N=>{sub:=some (a,b)}) (λN N=>{star:=true,odd:=true}) (λx N=>{name:=some x}) (λl N=>{L:=some l}) (λl N N=>{tup:=some l}) (λa b c N=>{slc:=some (a,b,c)})
structure EOK(p:EP)(x:Expr):Prop where
 name:∀ t,p.name=some t->∃ p,x=.Name t p
 const:∀ t,p.const=some t->∃ k p,x=.Constant t k p
 bin:∀ t,p.bin=some t->∃ p,x=.BinOp t.1 t.2.1 t.2.2 p
 un:∀ t,p.un=some t->∃ p,x=.UnaryOp t.1 t.2 p
 bool:∀ t,p.bool=some t->x=.BoolOp t.1 t.2.1 t.2.2
 cmp:∀ t,p.cmp=some t->∃ p,x=.Compare t.1 t.2.1 t.2.2 p
 tup:∀ t,p.tup=some t->∃ k p,x=.Tuple t k p
 L:∀ t,p.L=some t->∃ p,x=.List t p
 sub:∀ t,p.sub=some t->∃ p,x=.Subscript t.1 t.2 p
 slc:∀ t,p.slc=some t->∃ p,x=.Slice t.1 t.2.1 t.2.2 p
 call:∀ t,p.call=some t->x=.Call t.1 t.2.1 t.2.2.1 t.2.2.2
 attr:∀ t,p.attr=some t->x=.Attribute t.1 t.2.1 t.2.2
 comp:∀ t,p.comp=some t->∃ p,x=.ListComp t.1 t.2.1 t.2.2 p
 dict:∀ t,p.dict=some t->∃ p,x=.Dict t.1 t.2 p
theorem r4:EOK .z x:=⟨λz_=>no,λz_=>no,λz_=>no,λz_=>no,λz_=>no,λz_=>no,λz_=>no,λz_=>no,λz_=>no,λz_=>no,λz_=>no,λz_=>no,λz_=>no,λz_=>no⟩
theorem uo:EOK .o x:=⟨λz_=>no,λz_=>no,λz_=>no,λz_=>no,λz_=>no,λz_=>no,λz_=>no,λz_=>no,λz_=>no,λz_=>no,λz_=>no,λz_=>no,λz_=>no,λz_=>no⟩
theorem x2(e:Expr):EOK (ep e) e:=Expr.casesOn (motive_1:=λe=>EOK (ep e) e) e
 (λo l p=>{(r4:EOK .z _) with bool:=λt h=>by obtain rfl:=d7 h;rfl})
 (λN N N=>r4)
 (λl o r p=>{(r4:EOK .z _) with bin:=λt h=>by obtain rfl:=d7 h;exact⟨p,rfl⟩})
 (λo r p=>{(r4:EOK .z _) with un:=λt h=>by obtain rfl:=d7 h;exact⟨p,rfl⟩})
 (λN N N N=>r4) (λN N N N=>uo) (λk v p=>{(r4:EOK .z _) with dict:=λt h=>by obtain rfl:=d7 h;exact⟨p,rfl⟩}) (λN N N=>{(r4:EOK .z _) with})
 (λe l s p=>{(r4:EOK .z _) with comp:=λt h=>by obtain rfl:=d7 h;exact⟨p,rfl⟩})
 (λN N N N=>uo) (λN N N N N=>uo) (λN N N N=>r4) (λN N=>r4) (λN N=>r4) (λN N=>r4)
 (λl o r p=>{(r4:EOK .z _) with cmp:=λt h=>by obtain rfl:=d7 h;exact⟨p,rfl⟩})
 (λf a k p=>{(r4:EOK .z _) with call:=λt h=>by obtain rfl:=d7 h;rfl})
 (λN N N N=>r4) (λN N=>r4)
 (λc k p=>{(r4:EOK .z _) with const:=λt h=>by obtain rfl:=d7 h;exact⟨k,p,rfl⟩})
 (λo x p=>{(r4:EOK .z _) with attr:=λt h=>by obtain rfl:=d7 h;rfl})
 (λa b p=>{(r4:EOK .z _) with sub:=λt h=>by obtain rfl:=d7 h;exact⟨p,rfl⟩})
 (λN N=>{(r4:EOK .z _) with})
 (λx p=>{(r4:EOK .z _) with name:=λt h=>by obtain rfl:=d7 h;exact⟨p,rfl⟩})
 (λl p=>{(r4:EOK .z _) with L:=λt h=>by obtain rfl:=d7 h;exact⟨p,rfl⟩})
 (λl k p=>{(r4:EOK .z _) with tup:=λt h=>by obtain rfl:=d7 h;exact⟨k,p,rfl⟩})
 (λa b c p=>{(r4:EOK .z _) with slc:=λt h=>by obtain rfl:=d7 h;exact⟨p,rfl⟩})
def s0(e:Expr):Option Str:=(ep e).name
theorem B9(h:s0 x=some t):∃ p,x=.Name t p:=(x2 x).name t h
def D9(e:Expr):Option Const:=(ep e).const
theorem wF(h:D9 x=some t):∃ k p,x=.Constant t k p:=(x2 x).const t h
def oO(e:Expr):Option (Expr×Operator×Expr):=(ep e).bin
theorem QJ(h:oO x=some t):∃ p,x=.BinOp t.1 t.2.1 t.2.2 p:=(x2 x).bin t h
def N7(e:Expr):Option (UnaryOp×Expr):=(ep e).un
theorem HN(h:N7 x=some t):∃ p,x=.UnaryOp t.1 t.2 p:=(x2 x).un t h
def R2(e:Expr):Option (BoolOp×List Expr×Pos):=(ep e).bool
theorem Wn(h:R2 x=some t):x=.BoolOp t.1 t.2.1 t.2.2:=(x2 x).bool t h
def S7(e:Expr):Option (Expr×List CmpOp×List Expr):=(ep e).cmp
theorem Cd(h:S7 x=some t):∃ p,x=.Compare t.1 t.2.1 t.2.2 p:=(x2 x).cmp t h
def F3(e:Expr):Option (List Expr):=(ep e).tup
theorem X3(h:F3 x=some t):∃ k p,x=.Tuple t k p:=(x2 x).tup t h
def T9(e:Expr):Option (List Expr):=(ep e).L
theorem rH(h:T9 x=some t):∃ p,x=.List t p:=(x2 x).L t h
def K9(e:Expr):Option (Expr×Expr):=(ep e).sub
theorem Xo(h:K9 x=some t):∃ p,x=.Subscript t.1 t.2 p:=(x2 x).sub t h
def M3(e:Expr):Option (Option Expr×Option Expr×Option Expr):=(ep e).slc
theorem Xx(h:M3 x=some t):∃ p,x=.Slice t.1 t.2.1 t.2.2 p:=(x2 x).slc t h
def A8(e:Expr):Option (Expr×List Expr×List Keyword×Pos):=(ep e).call
theorem yW(h:A8 x=some t):x=.Call t.1 t.2.1 t.2.2.1 t.2.2.2:=(x2 x).call t h
def E2(e:Expr):Option (Expr×Str×Pos):=(ep e).attr
theorem UW(h:E2 x=some t):x=.Attribute t.1 t.2.1 t.2.2:=(x2 x).attr t h
def pg(e:Expr):Option (Expr×List Comprehension×Scope):=(ep e).comp
theorem YJ(h:pg x=some t):∃ p,x=.ListComp t.1 t.2.1 t.2.2 p:=(x2 x).comp t h
def pO(e:Expr):Option (List (Option Expr)×List Expr):=(ep e).dict
theorem ao1(h:pO x=some t):∃ p,x=.Dict t.1 t.2 p:=(x2 x).dict t h
def star(e:Expr):Bool:=(ep e).star
def uZ(e:Expr):Bool:=(ep e).set
def odd(e:Expr):Bool:=(ep e).odd
def uv(e:Expr):Bool:=!odd e&&(N7 e).isNone&&(R2 e).isNone&&(S7 e).isNone
structure EOF(x:Expr):Prop where
 star:star x=false->∀ (es:List Expr) (env:Env),mF (x::es) env=(false,eval x env)::mF es env
 swaps:odd x=false->∀ (t:Option Expr) (n:Nat) (env:Env),swapsWith x t n env=pure false
 swsub:∀ (o i:Expr) (p:Pos) (n:Nat) (env:Env),swapsWith x (some (.Subscript o i p)) n env=pure false
 fold:uZ x=false->∀ (env:Env) (v:Value),foldedSetIterable x env v=pure v
 subs:M3 x=none->∀ (o i:Value),subscripted x false o i=operate [o,i] (getItem o i)
 base:A8 x=none->∀ (n:Str) (env:Env) (w:Sem Value),attributeBase x n env w=w
 tru:uv x=true->∀ (env:Env) (w:Sem Value),isTrue x env w=(do let v <- w;standAt x.pos;holding [v] (truthy v))
theorem ft{P:Prop}(h:true=false):P:=(az h.symm).elim
theorem tf{P:Prop}(h:false=true):P:=(az h).elim
theorem sn{c:Type}{t:c}{P:Prop}(h:some t=none):P:=nomatch h
theorem M6(x:Expr):EOF x:=by
 refine Expr.casesOn (motive_1:=λx=>EOF x) x ?_ ?_ ?_ ?_ ?_ ?_ ?_ ?_ ?_ ?_ ?_ ?_ ?_ ?_ ?_ ?_ ?_ ?_ ?_ ?_ ?_ ?_ ?_ ?_ ?_ ?_ ?_<;>intros<;>refine⟨?_,?_,λN N N N N=>rfl,?_,?_,?_,?_⟩
 all_goals first | exact λN N N=>rfl | exact λN N N N=>rfl | exact ft | exact sn | exact tf
theorem v7(h:star e=false):mF (e::M) env=(false,eval e env)::mF M env:=(M6 e).star h _ _
theorem Dq(h:odd e=false):swapsWith e t n env=pure false:=(M6 e).swaps h _ _ _
theorem cd7:swapsWith e (some (.Subscript o i p)) n env=pure false:=(M6 e).swsub _ _ _ _ _
theorem DP(h:uZ e=false):foldedSetIterable e env x=pure x:=(M6 e).fold h _ _
theorem uF(h:M3 e=none):subscripted e false o i=operate [o,i] (getItem o i):=(M6 e).subs h _ _
theorem My(h:A8 e=none):attributeBase e x env w=w:=(M6 e).base h _ _ _
theorem cp9(h:uv e=true):isTrue e env w=(do let v <- w;standAt e.pos;holding [v] (truthy v)):=(M6 e).tru h _ _
def R6(o:BoolOp)(p:Pos)(e:Expr):List Expr->Expr
 | []=>e
 | es=>.BoolOp o (e::es) p
noncomputable def gl(sc:Scope)(x:Str):Bool:=decide (sc.names.lookup x=some .globalImplicit) && !(x==("__debug__" : Str))
def zU:Option Item->Bool
 | some (.fn _)=>true
 | _=>false
def L6(id:String):Option Item->Bool
 | some (.bi x)=>decide (x=id)
 | _=>false
def D5(id:String):Option Item->Bool
 | some (.ty x)=>decide (x=id)
 | _=>false
def Fi(D:List (Str×Int)):Option Item->Bool
 | some (.dict x)=>decide (x=D)
 | _=>false
def pP:Option Item->Bool
 | some (.cls _ _)=>true
 | _=>false
def O3(b:Bool):Option Item->Option Item->Bool
 | some (.cls C q),some (.cls c _)=>(Value.ref C::q).contains (.ref c)==b
 | some (.cls _ _),some (.ty id)=>decide (id = "ValueError")&&b
 | _,_=>false
def oU(T:Tab)(y:Str)(ys E:List Str):Bool:=ys.all (λx=>O3 true (T.lookup x) (T.lookup y))&&E.all (λx=>O3 false (T.lookup x) (T.lookup y))
def isV:Option Item->V->Bool
 | some (.int i),.int j=>decide (i=j)
 | some (.str i),.str j=>decide (i=j)
 | _,_=>false
def isC:Option Const->V->Bool
 | some .none,.none=>true
 | some (.bool i),.bool j=>decide (i=j)
 | some (.int i),.int j=>decide (i=j)
 | some (.str i),.str j=>decide (i=j)
 | _,_=>false
def isG(T:Tab)(sc:Scope)(v:V):Option Str->Bool
 | some n=>gl sc n&&isV (T.lookup n) v
 | none=>false
def e7{c:Type}(o:Option c)(f:c->Bool):Bool:=match o with
 | some t=>f t
 | none=>false
def one{c:Type}(l:List c)(f:c->Bool):Bool:=match l with
 | [x]=>f x
 | _=>false
def two{c:Type}(l:List c)(f:c->c->Bool):Bool:=match l with
 | [x,y]=>f x y
 | _=>false
def pH{c:Type}(l:List c)(f:c->c->List c->Bool):Bool:=match l with
 | x::y::r=>f x y r
 | _=>false
theorem b9(h:(a&&b)=true):a=true/\b=true:=by cases a<;>cases b<;>first | exact⟨rfl,rfl⟩ | exact(az h).elim
inductive A7(a b c d e f g:Bool):Prop
 | mk (h1:a=true) (h2:b=true) (h3:c=true) (h4:d=true) (h5:e=true) (h6:f=true) (h7:g=true):A7 a b c d e f g
theorem xB(h:(a&&(b&&(c&&(d&&(e&&(f&&g))))))=true):A7 a b c d e f g:=
 ⟨(b9 h).1,(b9 (b9 h).2).1,(b9 (b9 (b9 h).2).2).1,(b9 (b9 (b9 (b9 h).2).2).2).1,(b9 (b9 (b9 (b9 (b9 h).2).2).2).2).1,(b9 (b9 (b9 (b9 (b9 (b9 h).2).2).2).2).2).1,(b9 (b9 (b9 (b9 (b9 (b9 h).2).2).2).2).2).2⟩
theorem m6(h:(!a)=true):a=false:=by cases a<;>first | rfl | exact(az h).elim
theorem i7{c:Type}{o:Option c}{f:c->Bool}(h:e7 o f=true):∃ t,o=some t/\f t=true:=by
 cases o with
 | none=>exact(az h).elim
 | some t=>exact⟨t,rfl,h⟩
theorem p7{c:Type}{l:List c}{f:c->Bool}(h:one l f=true):∃ t,l=[t]/\f t=true:=by
 cases l with
 | nil=>exact(az h).elim
 | cons x l=>cases l with
  | nil=>exact⟨x,rfl,h⟩
  | cons _ _=>exact(az h).elim
theorem z9{c:Type}{l:List c}{f:c->c->Bool}(h:two l f=true):∃ t u,l=[t,u]/\f t u=true:=by
 cases l with
 | nil=>exact(az h).elim
 | cons x l=>cases l with
  | nil=>exact(az h).elim
  | cons y l=>cases l with
   | nil=>exact⟨x,y,rfl,h⟩
   | cons _ _=>exact(az h).elim
theorem an4{c:Type}{l:List c}{f:c->c->List c->Bool}(h:pH l f=true):∃ t u r,l=t::u::r/\f t u r=true:=by
 cases l with
 | nil=>exact(az h).elim
 | cons x l=>cases l with
  | nil=>exact(az h).elim
  | cons y l=>exact⟨x,y,l,rfl,h⟩
def s8(x:Expr)(P:Str->List Expr->Bool):Bool:=e7 (A8 x) λt=>t.2.2.1.isEmpty&&e7 (s0 t.1) λn=>P n t.2.1
theorem u0(h:s8 x P=true):∃ n q U p,x=.Call (.Name n U) q [] p/\P n q=true:=by
 refine a7 (i7 h) λt e h=>d5 (b9 h) λY h=>?_
 refine a7 (i7 h) λn c h=>d4 (B9 c) λU c=>?_
 exact⟨n,t.2.1,U,t.2.2.2,by rw[yW e,c,bx.mp Y],h⟩
theorem bz9{F:Str->List Expr->Bool}{P:Expr->Prop}(h:s8 x F=true)(k:∀ n as U p,F n as=true->P (.Call (.Name n U) as [] p)):P x:=by
 refine u9 (u0 h) λn as U p Ja e=>?_;clear h;subst Ja
 exact k n as U p e
theorem Uj{c:Type}{l:List c}{f:c->c->Bool}{P:List c->Prop}(h:two l f=true)(k:∀ t u,f t u=true->P [t,u]):P l:=by
 refine i6 (z9 h) λt u Ja e=>?_;clear h;subst Ja
 exact k t u e
def Y3(x:Expr):Bool:=(A8 x).isNone||s8 x λz_ c=>!c.isEmpty
theorem P4(h:Y3 x=true):attributeBase x n env w=w:=by
 rcases(fJ _ _).mp h with e | e
 ·exact My (cV.mp e)
 ·obtain⟨m,c,U,p,rfl,e⟩:=u0 (P:=λz_ c=>!c.isEmpty) e
  cases c with
  | nil=>exact tf e
  | cons a c=>rfl
def biC(T:Tab)(sc:Scope)(f:Option Item->Bool)(k:List Expr->Bool)(n:Str)(as:List Expr):Bool:=gl sc n&&(f (T.lookup n)&&k as)
def Dz(k:Expr->Bool)(e:Expr):Bool:=!star e&&k e
def Q7(k:Expr->Bool)(as:List Expr):Bool:=one as k
def xQ(T:Tab)(sc:Scope)(id:String)(k:Expr->Bool)(r:Expr):Bool:=s8 r (biC T sc (D5 id) (Q7 (Dz k)))
def bO9(k r:Expr->Bool)(e c:Expr):Bool:=!star e&&(k e&&r c)
def sY(k r:Expr->Bool)(as:List Expr):Bool:=two as (bO9 k r)
def wM(f:Str->Bool)(x:Expr):Bool:=e7 (s0 x) f
def tyN(T:Tab)(sc:Scope)(id:String)(m:Str):Bool:=gl sc m&&D5 id (T.lookup m)
def Lz(T:Tab)(sc:Scope)(y:Str)(ys E:List Str)(m:Str):Bool:=decide (m=y)&&(gl sc m&&((pP (T.lookup m)||D5 "ValueError" (T.lookup m))&&oU T m ys E))
def bz6(T:Tab)(sc:Scope)(c Q:Expr):Bool:=e7 (s0 c) (tyN T sc "list")&&e7 (s0 Q) (tyN T sc "tuple")
def cn0(T:Tab)(sc:Scope)(l:List Expr):Bool:=two l (bz6 T sc)
def Ur(T:Tab)(sc:Scope)(c:Expr):Bool:=e7 (F3 c) (cn0 T sc)
def Qc(T:Tab)(sc:Scope)(f:Str)(k:List Expr->Bool)(n:Str)(as:List Expr):Bool:=decide (n=f)&&(gl sc n&&(zU (T.lookup n)&&k as))
noncomputable def bV7(op:Operator)(k1 k2:Expr->Bool)(t:Expr×Operator×Expr):Bool:=decide (t.2.1=op)&&(k1 t.1&&k2 t.2.2)
noncomputable def VH(op:CmpOp)(k1 k2:Expr->Bool)(l:Expr)(o:CmpOp)(r:Expr):Bool:=decide (o=op)&&(!behindInMarks o r&&(k1 l&&k2 r))
def MJ(op:CmpOp)(k1 k2:Expr->Bool)(l:Expr)(rs:List Expr)(o:CmpOp):Bool:=one rs (VH op k1 k2 l o)
def Zk(op:CmpOp)(k1 k2:Expr->Bool)(t:Expr×List CmpOp×List Expr):Bool:=one t.2.1 (MJ op k1 k2 t.1 t.2.2)
noncomputable def bI4(o p:CmpOp)(k1 k2 k3:Expr->Bool)(l:Expr)(o' c:CmpOp)(r s:Expr):Bool:=decide (o'=o)&&(decide (c=p)&&(!lastMarks [o',c] [r,s]&&(k1 l&&(k2 r&&k3 s))))
def Qm(o p:CmpOp)(k1 k2 k3:Expr->Bool)(l:Expr)(rs:List Expr)(o' c:CmpOp):Bool:=two rs (bI4 o p k1 k2 k3 l o' c)
def Gw(o p:CmpOp)(k1 k2 k3:Expr->Bool)(t:Expr×List CmpOp×List Expr):Bool:=two t.2.1 (Qm o p k1 k2 k3 t.1 t.2.2)
noncomputable def oZ(k:List Expr->Bool)(l:List Expr):Bool:=decide (l.length<=10000)&&k l
def bG7(op:CmpOp)(k1:Expr->Bool)(k2:List Expr->Bool)(l:Expr)(o:CmpOp)(r:Expr):Bool:=decide (o=op)&&(k1 l&&e7 (T9 r) (oZ k2))
def KZ(op:CmpOp)(k1:Expr->Bool)(k2:List Expr->Bool)(l:Expr)(rs:List Expr)(o:CmpOp):Bool:=one rs (bG7 op k1 k2 l o)
def bS8(op:CmpOp)(k1:Expr->Bool)(k2:List Expr->Bool)(t:Expr×List CmpOp×List Expr):Bool:=one t.2.1 (KZ op k1 k2 t.1 t.2.2)
def bP5(k1 k2:Expr->Bool)(t:Expr×Expr):Bool:=(M3 t.2).isNone&&(k1 t.1&&k2 t.2)
def br8(n:Nat)(k:Expr->Bool)(t:Expr×Expr):Bool:=isC (D9 t.2) (.int n)&&(decide (n<=10000)&&k t.1)
def Wz(k1:Expr->Bool)(k2:List Expr->Bool)(t:Expr×Expr):Bool:=(M3 t.2).isNone&&(k1 t.2&&e7 (T9 t.1) (oZ k2))
noncomputable def Ji(k1:Expr->Bool)(k2 k3:Option Expr->Bool)(l:Expr)(u:Option Expr×Option Expr×Option Expr):Bool:=u.2.2.isNone&&(k1 l&&(k2 u.1&&k3 u.2.1))
def Ij(k1:Expr->Bool)(k2 k3:Option Expr->Bool)(t:Expr×Expr):Bool:=e7 (M3 t.2) (Ji k1 k2 k3 t.1)
def sr(nm:Str)(k1:Expr->Bool)(k2:List Expr->Bool)(as:List Expr)(p:Pos)(u:Expr×Str×Pos):Bool:=decide (u.2.1=nm)&&((u.2.2.endLine==p.line)&&(Y3 u.1&&(decide (as.length<20)&&(k1 u.1&&k2 as))))
def bK8(k2 k3:Expr->Bool)(e y:Expr):Bool:=!star e&&(!star y&&(k2 e&&k3 y))
def Hj(k1 k2 k3:Expr->Bool)(as:List Expr)(p:Pos)(u:Expr×Str×Pos):Bool:=decide (u.2.1=aa "get")&&((u.2.2.endLine==p.line)&&(Y3 u.1&&(k1 u.1&&two as (bK8 k2 k3))))
structure SP where
 ret:Option (Option Expr):=none
 iff:Option (Expr×List Stmt×List Stmt):=none
 asg:Option (List Expr×Expr×Pos):=none
 expr:Option Expr:=none
 loop:Option (Expr×Expr×List Stmt×List Stmt):=none
 whl:Option (Expr×List Stmt×List Stmt):=none
 pass:Option Unit:=none
 brk:Option Unit:=none
 rais:Option (Option Expr×Option Expr):=none
 tri:Option (List Stmt×List ExceptHandler×List Stmt×List Stmt):=none
noncomputable def SP.z:SP:={}
def sp(e:Stmt):SP:=Stmt.casesOn (motive_2:=λN=>SP) e (λN N N N N N N N N N=>.z) (λN N N N N N N N N N=>.z) (λN N N N N N N N N N N=>.z) (λa b=>{ret:=some a}) (λN N=>.z) (λa b c=>{asg:=some (a,b,c)}) (λN N N N N N N=>.z) (λN N N N=>.z) (λN N N N N=>.z) (λa b c d e=>{loop:=some (a,b,c,d)}) (λN N N N N=>.z) (λa b c d=>{whl:=some (a,b,c)}) (λa b c d=>{iff:=some (a,b,c)}) (λN N N=>.z) (λN N N=>.z) (λN N N=>.z) (λa b N=>{rais:=some (a,b)}) (λa b c d N=>{tri:=some (a,b,c,d)}) (λN N N N N=>.z) (λN N N=>.z) (λN N=>.z) (λN N N N=>.z) (λN N=>.z) (λN N=>.z) (λa b=>{expr:=some a}) (λa=>{pass:=some ()}) (λa=>{brk:=some ()}) (λN=>.z)
structure SOK(p:SP)(x:Stmt):Prop where
 ret:∀ t,p.ret=some t->∃ p,x=.Return t p
 iff:∀ t,p.iff=some t->∃ p,x=.If t.1 t.2.1 t.2.2 p
 asg:∀ t,p.asg=some t->x=.Assign t.1 t.2.1 t.2.2
 expr:∀ t,p.expr=some t->∃ p,x=.Expr t p
 loop:∀ t,p.loop=some t->∃ p,x=.For t.1 t.2.1 t.2.2.1 t.2.2.2 p
 whl:∀ t,p.whl=some t->∃ p,x=.While t.1 t.2.1 t.2.2 p
 pass:∀ t,p.pass=some t->∃ p,x=.Pass p
 brk:∀ t,p.brk=some t->∃ p,x=.Break p
 rais:∀ t,p.rais=some t->∃ p,x=.Raise t.1 t.2 p
 tri:∀ t,p.tri=some t->∃ p,x=.Try t.1 t.2.1 t.2.2.1 t.2.2.2 p
theorem n9:SOK .z x:=⟨λz_=>no,λz_=>no,λz_=>no,λz_=>no,λz_=>no,λz_=>no,λz_=>no,λz_=>no,λz_=>no,λz_=>no⟩
theorem G0(e:Stmt):SOK (sp e) e:=Stmt.casesOn (motive_2:=λe=>SOK (sp e) e) e (λN N N N N N N N N N=>n9) (λN N N N N N N N N N=>n9) (λN N N N N N N N N N N=>n9) (λN N=>{(n9:SOK .z _) with ret:=λt h=>by obtain rfl:=d7 h;exact⟨_,rfl⟩}) (λN N=>n9) (λN N N=>{(n9:SOK .z _) with asg:=λt h=>by obtain rfl:=d7 h;exact rfl}) (λN N N N N N N=>n9) (λN N N N=>n9) (λN N N N N=>n9) (λN N N N N=>{(n9:SOK .z _) with loop:=λt h=>by obtain rfl:=d7 h;exact⟨_,rfl⟩}) (λN N N N N=>n9) (λN N N N=>{(n9:SOK .z _) with whl:=λt h=>by obtain rfl:=d7 h;exact⟨_,rfl⟩}) (λN N N N=>{(n9:SOK .z _) with iff:=λt h=>by obtain rfl:=d7 h;exact⟨_,rfl⟩}) (λN N N=>n9) (λN N N=>n9) (λN N N=>n9) (λN N N=>{(n9:SOK .z _) with rais:=λt h=>by obtain rfl:=d7 h;exact⟨_,rfl⟩}) (λN N N N N=>{(n9:SOK .z _) with tri:=λt h=>by obtain rfl:=d7 h;exact⟨_,rfl⟩}) (λN N N N N=>n9) (λN N N=>n9) (λN N=>n9) (λN N N N=>n9) (λN N=>n9) (λN N=>n9) (λN N=>{(n9:SOK .z _) with expr:=λt h=>by obtain rfl:=d7 h;exact⟨_,rfl⟩}) (λN=>{(n9:SOK .z _) with pass:=λt h=>by obtain rfl:=d7 h;exact⟨_,rfl⟩}) (λN=>{(n9:SOK .z _) with brk:=λt h=>by obtain rfl:=d7 h;exact⟨_,rfl⟩}) (λN=>n9)
def tM(e:Stmt):Option (Option Expr):=(sp e).ret
theorem Rp(h:tM x=some t):∃ p,x=.Return t p:=(G0 x).ret t h
def rK(e:Stmt):Option (Expr×List Stmt×List Stmt):=(sp e).iff
theorem Tg(h:rK x=some t):∃ p,x=.If t.1 t.2.1 t.2.2 p:=(G0 x).iff t h
def I6(e:Stmt):Option (List Expr×Expr×Pos):=(sp e).asg
theorem aZ7(h:I6 x=some t):x=.Assign t.1 t.2.1 t.2.2:=(G0 x).asg t h
def rF(e:Stmt):Option Expr:=(sp e).expr
theorem JG(h:rF x=some t):∃ p,x=.Expr t p:=(G0 x).expr t h
def qu(e:Stmt):Option (Expr×Expr×List Stmt×List Stmt):=(sp e).loop
theorem QX(h:qu x=some t):∃ p,x=.For t.1 t.2.1 t.2.2.1 t.2.2.2 p:=(G0 x).loop t h
def sW(e:Stmt):Option (Expr×List Stmt×List Stmt):=(sp e).whl
theorem Uc(h:sW x=some t):∃ p,x=.While t.1 t.2.1 t.2.2 p:=(G0 x).whl t h
def yU(e:Stmt):Bool:=(sp e).brk.isSome
theorem bB8(h:yU x=true):∃ p,x=.Break p:=(G0 x).brk () (cX.mp h).choose_spec
theorem W6{F:_->Bool}{P:Expr->Prop}(h:e7 (s0 x) F=true)(k:∀ n p,F n=true->P (.Name n p)):P x:=by
 refine a7 (i7 h) λy E T=>?_;clear h
 refine d4 (B9 E) λK Ja=>?_;subst Ja
 exact k _ _ T
theorem wH{F:_->Bool}{P:Expr->Prop}(h:e7 (oO x) F=true)(k:∀ l o r p,F (l,o,r)=true->P (.BinOp l o r p)):P x:=by
 k_extra"dj";refine d4 (QJ e1) λK Ja=>?_;subst Ja
 exact k _ _ _ _ hf
theorem Zu{F:_->Bool}{P:Expr->Prop}(h:e7 (N7 x) F=true)(k:∀ o r p,F (o,r)=true->P (.UnaryOp o r p)):P x:=by
 obtain⟨⟨Y,u⟩,E,hf⟩:=i7 h;clear h;refine d4 (HN E) λK Ja=>?_;subst Ja
 exact k _ _ _ hf
theorem um{F:_->Bool}{P:Expr->Prop}(h:e7 (R2 x) F=true)(k:∀ o l p,F (o,l,p)=true->P (.BoolOp o l p)):P x:=by
 obtain⟨⟨Y,c,K⟩,E,hf⟩:=i7 h;clear h;obtain rfl:=Wn E;exact k _ _ _ hf
theorem aq0{F:_->Bool}{P:Expr->Prop}(h:e7 (S7 x) F=true)(k:∀ l o r p,F (l,o,r)=true->P (.Compare l o r p)):P x:=by
 k_extra"dj";refine d4 (Cd e1) λK Ja=>?_;subst Ja
 exact k _ _ _ _ hf
theorem rO{F:_->Bool}{P:Expr->Prop}(h:e7 (F3 x) F=true)(k:∀ l k p,F l=true->P (.Tuple l k p)):P x:=by
 refine a7 (i7 h) λl0 e1 hf=>?_;clear h
 refine k9 (X3 e1) λS K Ja=>?_;subst Ja
 exact k _ _ _ hf
theorem ca0{F:_->Bool}{P:Expr->Prop}(h:e7 (T9 x) F=true)(k:∀ l p,F l=true->P (.List l p)):P x:=by
 refine a7 (i7 h) λl0 e1 hf=>?_;clear h
 refine d4 (rH e1) λK Ja=>?_;subst Ja
 exact k _ _ hf
theorem V3{F:_->Bool}{P:Expr->Prop}(h:e7 (K9 x) F=true)(k:∀ a b p,F (a,b)=true->P (.Subscript a b p)):P x:=by
 obtain⟨⟨a0,b0⟩,e1,hf⟩:=i7 h;clear h;refine d4 (Xo e1) λK Ja=>?_;subst Ja
 exact k _ _ _ hf
theorem O2{F:_->Bool}{P:Expr->Prop}(h:e7 (A8 x) F=true)(k:∀ f as ks p,F (f,as,ks,p)=true->P (.Call f as ks p)):P x:=by
 obtain⟨⟨u,c,q,K⟩,E,hf⟩:=i7 h;clear h;obtain rfl:=yW E;exact k _ _ _ _ hf
theorem H8{F:_->Bool}{P:Expr->Prop}(h:e7 (E2 x) F=true)(k:∀ o n p,F (o,n,p)=true->P (.Attribute o n p)):P x:=by
 obtain⟨⟨Y,y,K⟩,E,hf⟩:=i7 h;clear h;obtain rfl:=UW E;exact k _ _ _ hf
theorem zL{F:_->Bool}{P:Expr->Prop}(h:e7 (pg x) F=true)(k:∀ e l s p,F (e,l,s)=true->P (.ListComp e l s p)):P x:=by
 obtain⟨⟨O,c,q⟩,E,hf⟩:=i7 h;clear h;refine d4 (YJ E) λK Ja=>?_;subst Ja
 exact k _ _ _ _ hf
theorem Ip{F:_->Bool}{P:Stmt->Prop}(h:e7 (rK x) F=true)(k:∀ t a b p,F (t,a,b)=true->P (.If t a b p)):P x:=by
 obtain⟨⟨u,c,q⟩,E,hf⟩:=i7 h;clear h;refine d4 (Tg E) λK Ja=>?_;subst Ja
 exact k _ _ _ _ hf
theorem N8{F:_->Bool}{P:Stmt->Prop}(h:e7 (I6 x) F=true)(k:∀ t e p,F (t,e,p)=true->P (.Assign t e p)):P x:=by
 obtain⟨⟨c,O,K⟩,E,hf⟩:=i7 h;clear h;obtain rfl:=aZ7 E;exact k _ _ _ hf
theorem Ut{F:_->Bool}{P:Stmt->Prop}(h:e7 (tM x) F=true)(k:∀ t p,F t=true->P (.Return t p)):P x:=by
 refine a7 (i7 h) λc E T=>?_;clear h
 refine d4 (Rp E) λK Ja=>?_;subst Ja
 exact k _ _ T
theorem Vy{F:_->Bool}{P:Stmt->Prop}(h:e7 (rF x) F=true)(k:∀ e p,F e=true->P (.Expr e p)):P x:=by
 refine a7 (i7 h) λO E T=>?_;clear h
 refine d4 (JG E) λK Ja=>?_;subst Ja
 exact k _ _ T
theorem tC{F:_->Bool}{P:Stmt->Prop}(h:e7 (qu x) F=true)(k:∀ t i b o p,F (t,i,b,o)=true->P (.For t i b o p)):P x:=by
 obtain⟨⟨u,q,c,Y⟩,E,T⟩:=i7 h;clear h;refine d4 (QX E) λK Ja=>?_;subst Ja
 exact k _ _ _ _ _ T
theorem Lk{F:_->Bool}{P:Stmt->Prop}(h:e7 (sW x) F=true)(k:∀ t b o p,F (t,b,o)=true->P (.While t b o p)):P x:=by
 obtain⟨⟨q,c,Y⟩,E,hf⟩:=i7 h;clear h;refine d4 (Uc E) λK Ja=>?_;subst Ja
 exact k _ _ _ _ hf
theorem Yz{F:_->Bool}{P:Stmt->Prop}(h:e7 (sp x).rais F=true)(k:∀ a b p,F (a,b)=true->P (.Raise a b p)):P x:=by
 obtain⟨⟨a0,b0⟩,e1,hf⟩:=i7 h;clear h;refine d4 ((G0 x).rais _ e1) λK Ja=>?_;subst Ja
 exact k _ _ _ hf
theorem cc6{F:_->Bool}{P:Stmt->Prop}(h:e7 (sp x).tri F=true)(k:∀ a b c d p,F (a,b,c,d)=true->P (.Try a b c d p)):P x:=by
 obtain⟨⟨q,u,w,y⟩,E,T⟩:=i7 h;clear h;refine d4 ((G0 x).tri _ E) λK Ja=>?_;subst Ja
 exact k _ _ _ _ _ T
def Y6(h:ExceptHandler):Option Expr×Option Str×List Stmt:=match h with
 | .ExceptHandler t n b _=>(t,n,b)
def hNm(sc:Scope)(vs:List Str):Option Nat->Option Str->Bool
 | none,none=>true
 | some i,some x=>decide (vs[i]?=some x)&&decide (sc.names.lookup x=some .local)
 | _,_=>false
def M4(vs:List Str)(i:Nat)(x:Expr):Bool:=e7 (s0 x) λn=>decide (vs[i]?=some n)
noncomputable def Y0(vs:List Str):List Nat->List Expr->Bool
 | [],l=>l.isEmpty
 | i::c,l=>match l with
  | x::l=>M4 vs i x&&Y0 vs c l
  | []=>false
abbrev Lo:=List (Option V)
abbrev VP:=V->Hp->Prop
abbrev BP:=Bool->Hp->Prop
abbrev XP:=Str->Hp->Prop
variable{XX:XP}
structure Cx where
 g:G
 d:Nat
 Q:j5
 X:n5
variable{cx:Cx}
abbrev KT:=Cx->List V->Lo->Hp->Prop
def ps(K:KT)(c:Cx)(s:List V)(J:Lo):VP:=λv H=>K c (v::s) J H
def xC(c:Cx)(J:Lo):XP:=λx H=>c.X x J H
def nx(K:KT)(c:Cx)(s:List V):j5:=λf q H=>match f with
 | .next=>K c s q H
 | f=>c.Q f q H
def Cx.wQ(c:Cx)(Q:j5):Cx:=⟨c.g,c.d,Q,c.X⟩
def l6:KT:=λc N q H=>c.Q .next q H
def Do:KT:=λc N q H=>c.Q .brk q H
def E7:n5:=λN N N=>False
inductive Req(P K:Prop):Prop
 | mk (p:P) (k:K):Req P K
inductive Look(Z:Hp)(a:Addr)(K:List V->Prop):Prop
 | mk (l:List V) (h:Z a=some (.L l)) (k:K l):Look Z a K
inductive LookR(g:G)(Z:Hp)(a:Addr)(K:List V->Prop):Prop
 | mk (l:List V) (h:Z a=some (.L l)) (k:K l):LookR g Z a K
 | scr (ns:List Int) (h:Scr g a ns) (k:K (ns.map .int)):LookR g Z a K
inductive Own:Hp->Addr->(Hp->List V->Prop)->Prop
 | top {Z:Hp} {a:Addr} {l:List V} {K:Hp->List V->Prop} (k:K Z l):Own (upd Z a (.L l)) a K
 | mk {Z:Hp} {a:Addr} {K:Hp->List V->Prop} (l:List V) (h:Z a=some (.L l)) (k:K Z l):Own Z a K
inductive LookI(Z:Hp)(a:Addr)(K:List (Int×V)->Prop):Prop
 | mk (l:List (Int×V)) (h:Z a=some (.di l)) (k:K l):LookI Z a K
inductive LookS(Z:Hp)(a:Addr)(K:List (Str×V)->Prop):Prop
 | mk (l:List (Str×V)) (h:Z a=some (.ds l)) (k:K l):LookS Z a K
inductive OwnI:Hp->Addr->(Hp->List (Int×V)->Prop)->Prop
 | top {Z:Hp} {a:Addr} {l:List (Int×V)} {K:Hp->List (Int×V)->Prop} (k:K Z l):OwnI (upd Z a (.di l)) a K
 | mk {Z:Hp} {a:Addr} {K:Hp->List (Int×V)->Prop} (l:List (Int×V)) (h:Z a=some (.di l)) (k:K Z l):OwnI Z a K
inductive OwnS:Hp->Addr->(Hp->List (Str×V)->Prop)->Prop
 | top {Z:Hp} {a:Addr} {l:List (Str×V)} {K:Hp->List (Str×V)->Prop} (k:K Z l):OwnS (upd Z a (.ds l)) a K
 | mk {Z:Hp} {a:Addr} {K:Hp->List (Str×V)->Prop} (l:List (Str×V)) (h:Z a=some (.ds l)) (k:K Z l):OwnS Z a K
inductive LookX(Z:Hp)(a:Addr)(K:Str->Prop):Prop
 | mk (x:Str) (h:Z a=some (.ex x)) (k:K x):LookX Z a K
inductive Hit(x:Str)(ys ns:List Str)(A B:Prop):Prop
 | yes (h:ys.contains x=true) (a:A):Hit x ys ns A B
 | no (h:ns.contains x=true) (b:B):Hit x ys ns A B
inductive HitB(x:Str)(ys ns:List Str)(K:Bool->Prop):Prop
 | mk (b:Bool) (h1:b=true->ys.contains x=true) (h2:b=false->ns.contains x=true) (k:K b):HitB x ys ns K
inductive DAt(o:Option V)(K:V->Prop):Prop
 | mk (v:V) (h:o=some v) (k:K v):DAt o K
inductive Stop(P:Prop):Prop
 | mk (p:P):Stop P
inductive Pick(l:List V)(n:Int)(K:V->Prop):Prop
 | mk (h0:0<=n) (h1:n<l.length) (k:∀ x,l[n.toNat]?=some x->K x):Pick l n K
inductive Idx(l:List V)(k:Int)(K:V->Prop):Prop
 | mk (h0:0<=k) (h1:k<l.length) (hz:k<2 ^ 63) (h:∀ x,l[k.toNat]?=some x->K x):Idx l k K
inductive IdxS(x:Str)(k:Int)(K:V->Prop):Prop
 | mk (h0:0<=k) (h1:k<x.length) (hz:k<2 ^ 63) (h:∀ c,x.cps[k.toNat]?=some c->K (.str ⟨#[c]⟩)):IdxS x k K
inductive DGet(D:List (Str×Int))(s:Str)(K:V->Prop):Prop
 | none (e:D.lookup s=Option.none) (k:K .none):DGet D s K
 | some (i:Int) (e:D.lookup s=Option.some i) (k:K (.int i)):DGet D s K
inductive SSet(Z:Hp)(a:Addr)(Q:VP):Prop
 | mk (l:List Int) (h:Z a=some (.L (l.map .int))) (h64:l.length<64) (k:∀ b (L:List Int),Z b=none->L.length<=l.length->(∀ y,y∈L↔y∈l)->Q (.ref b) (upd Z b (.L (L.map .int)))):SSet Z a Q
inductive AllB(Z:Hp)(a:Addr)(Q:VP):Prop
 | mk (bs:List Bool) (h:Z a=some (.L (bs.map .bool))) (k:Q (.bool (bs.all id)) Z):AllB Z a Q
inductive SumL(Z:Hp)(a:Addr)(Q:VP):Prop
 | mk (ns:List Int) (h:Z a=some (.L (ns.map .int))) (k:Q (.int ns.sum) Z):SumL Z a Q
inductive DOf(Z:Hp)(a:Addr)(Q:VP):Prop
 | mk (ps:List (Str×V)) (h:Z a=some (.L (ps.map F1))) (hn:(ps.map (·.1)).Nodup) (hz:ps.length<=10000) (k:∀ b,Z b=none->Q (.ref b) (upd Z b (.ds ps))):DOf Z a Q
inductive InL(n:Bool)(d:Nat)(l:List V)(x:V)(Z:Hp)(Q:VP):Prop
 | ofStrs (ss:List Str) (y:Str) (hx:x=.str y) (hl:l=ss.map .str) (k:Q (.bool (n ^^ ss.any (· == y))) Z):InL n d l x Z Q
 | mk (hl:flatL l=true) (hx:flat x=true) (hu:min (depL l) (dep x)+1<=8*d) (k:Q (.bool (n ^^ (g7 l).any λy=>PyData.eqv y (dat x))) Z):InL n d l x Z Q
inductive EqL(n:Bool)(d:Nat)(l k:List V)(Z:Hp)(Q:VP):Prop
 | mk (hl:flatL l=true) (hk:flatL k=true) (hu:min (depL l) (depL k)+1<=8*d) (h:Q (.bool (n ^^ PyData.eqvAll (g7 l) (g7 k))) Z):EqL n d l k Z Q
inductive EqT(n:Bool)(d:Nat)(l k:List V)(Z:Hp)(Q:VP):Prop
 | nil (hk:k=[]) (hn:n=false) (hd:0<d) (h:Q (.bool (l.length==0)) Z):EqT n d l k Z Q
 | mk (hl:flatL l=true) (hk:flatL k=true) (hu:min (depL l) (depL k)+1<=8*d) (h:Q (.bool (n ^^ PyData.eqvAll (g7 l) (g7 k))) Z):EqT n d l k Z Q
 | refs (a b a' b':Addr) (x y:List V) (el:l=[.ref a,.ref b]) (ek:k=[.ref a',.ref b']) (ha:Z a=some (.L x)) (hb:Z b=some (.L y)) (ha':Z a'=some (.L x)) (hb':Z b'=some (.L y)) (fx:flatL x=true) (fy:flatL y=true) (dx:depL x+2<=8*d) (dy:depL y+2<=8*d) (hn:n=true) (h:Q (.bool false) Z):EqT n d l k Z Q
inductive InR(n:Bool)(d:Nat)(Z:Hp)(a:Addr)(x:V)(Q:VP):Prop
 | l (h:Look Z a λl=>InL n d l x Z Q):InR n d Z a x Q
 | i (k:Int) (e:x=.int k) (h:LookI Z a λl=>Q (.bool (n ^^ (i9 l k).isSome)) Z):InR n d Z a x Q
 | s (k:Str) (e:x=.str k) (h:LookS Z a λl=>Q (.bool (n ^^ (i9 l k).isSome)) Z):InR n d Z a x Q
inductive ItR(g:G)(Z:Hp)(a:Addr)(k:Int)(Q:VP):Prop
 | l (h:LookR g Z a λl=>Idx l k λx=>Q x Z):ItR g Z a k Q
 | d (h:LookI Z a λl=>DAt (i9 l k) λx=>Q x Z):ItR g Z a k Q
inductive PtR(Z:Hp)(a:Addr)(k:Int)(v:V)(K:Hp->Prop):Prop
 | l (h:Own Z a λZ l=>Req (0<=k/\k<l.length/\l.length<=10000) (K (upd Z a (.L (l.set k.toNat v))))):PtR Z a k v K
 | d (h:OwnI Z a λZ l=>Req (l.length<=10000) (K (upd Z a (.di (x7 l k v))))):PtR Z a k v K
def New(Z:Hp)(K:Addr->Prop):Prop:=∀ a,Z a=none->K a
def Ite(b:Bool)(A B:Prop):Prop:=(b=true->A)/\(b=false->B)
inductive TY where
 | int | bool | str | tuple | list
def TY.nm:TY->String
 | .int=>"int"
 | .bool=>"bool"
 | .str=>"str"
 | .tuple=>"tuple"
 | .list=>"list"
def oAt:Option V->(V->Prop)->Prop
 | some v,K=>K v
 | none,_=>False
def vAt:Lo->Nat->(V->Prop)->Prop
 | x::_,0,K=>oAt x K
 | _::l,n+1,K=>vAt l n K
 | [],_,_=>False
def lAt:List V->Nat->(V->Prop)->Prop
 | x::_,0,K=>K x
 | _::l,n+1,K=>lAt l n K
 | [],_,_=>False
def V9:List V->(List Str->Prop)->Prop
 | [],K=>K []
 | .str x::l,K=>V9 l λc=>K (x::c)
 | _,_=>False
def uR:V->(Option Int->Prop)->Prop
 | .none,K=>K none
 | .int i,K=>K (some i)
 | _,_=>False
def FP:V->V->Hp->VP->Prop
 | .int a,.int b,H,Q=>Q (.int (a+b)) H
 | .str x,.str y,H,Q=>Req (x.length+y.length<=10000) (Q (.str (x++y)) H)
 | .tup l,.tup k,H,Q=>Req (l.length+k.length<=10000) (Q (.tup (l++k)) H)
 | .ref a,.ref b,H,Q=>Look H a λl=>Look H b λk=>Req (l.length+k.length<=10000) (New H λc=>Q (.ref c) (upd H c (.L (l++k))))
 | _,_,_,_=>False
def Cw:V->V->Hp->VP->Prop
 | .int a,.int b,H,Q=>Req (s5 a∨s5 b) (Q (.int (a*b)) H)
 | .ref a,.int n,H,Q=>Look H a λl=>Req (0<=n/\l.length*n.toNat<=10000/\n<=10000) (New H λb=>Q (.ref b) (upd H b (.L (aC n.toNat l).flatten)))
 | _,_,_,_=>False
def A6(P:Int->Int->Prop):V->V->Prop
 | .int a,.int b=>P a b
 | _,_=>False
def DW(op:Operator)(x y:V)(Z:Hp)(Q:VP):Prop:=match op with
 | .Add=>FP x y Z Q
 | .Sub=>A6 (λa b=>Q (.int (a-b)) Z) x y
 | .Mult=>Cw x y Z Q
 | .Mod=>A6 (λa b=>Req (0<b) (Q (.int (a%b)) Z)) x y
 | .FloorDiv=>A6 (λa b=>Req (0<b/\b<2 ^ 64) (Q (.int (a / b)) Z)) x y
 | _=>False
def RB(n:Bool)(Z:Hp)(Q:VP)(y:Str):V->Prop
 | .str x=>match n with
  | true=>Q (.bool (!Txt.contains y x)) Z
  | false=>Q (.bool (Txt.contains y x)) Z
 | _=>False
def YM(n:Bool)(Z:Hp)(Q:VP)(l:List V):V->Prop
 | .str x=>match n with
  | true=>False
  | false=>V9 l λc=>Q (.bool (c.any (· == x))) Z
 | _=>False
def wIn(n:Bool)(d:Nat)(Z:Hp)(Q:VP)(x:V):V->Prop
 | .str y=>RB n Z Q y x
 | .tup l=>YM n Z Q l x
 | .ref a=>InR n d Z a x Q
 | _=>False
def wEq(d:Nat)(Z:Hp)(Q:VP):V->V->Prop
 | .int a,.int b=>Q (.bool (a==b)) Z
 | .str a,.str b=>Q (.bool (a==b)) Z
 | .bool a,.bool b=>Q (.bool (a==b)) Z
 | .none,.int _=>Q (.bool false) Z
 | .tup l,.tup k=>EqT false d l k Z Q
 | .ref a,.ref b=>Look Z a λl=>Look Z b λk=>EqL false d l k Z Q
 | _,_=>False
def wNe(d:Nat)(Z:Hp)(Q:VP):V->V->Prop
 | .int a,.int b=>Q (.bool (a != b)) Z
 | .str a,.str b=>Q (.bool (a != b)) Z
 | .bool a,.bool b=>Q (.bool (a != b)) Z
 | .none,.int _=>Q (.bool true) Z
 | .tup l,.tup k=>EqT true d l k Z Q
 | .ref a,.ref b=>Look Z a λl=>Look Z b λk=>EqL true d l k Z Q
 | _,_=>False
def L1(d:Nat)(op:CmpOp)(x y:V)(Z:Hp)(Q:VP):Prop:=match op with
 | .Lt=>A6 (λa b=>Q (.bool (decide (a<b))) Z) x y
 | .LtE=>A6 (λa b=>Q (.bool (decide (a<=b))) Z) x y
 | .Gt=>A6 (λa b=>Q (.bool (decide (a > b))) Z) x y
 | .GtE=>A6 (λa b=>Q (.bool (decide (a≥b))) Z) x y
 | .Eq=>wEq d Z Q x y
 | .NotEq=>wNe d Z Q x y
 | .In=>wIn false d Z Q x y
 | .NotIn=>wIn true d Z Q x y
 | _=>False
def V5:V->Hp->BP->Prop
 | .bool b,H,Q=>Q b H
 | .int i,H,Q=>Q (i != 0) H
 | _,_,_=>False
def Em(g:G):V->V->Hp->VP->Prop
 | .tup l,.int k,H,Q=>Idx l k λx=>Q x H
 | .str x,.int k,H,Q=>IdxS x k λx=>Q x H
 | .ref a,.int k,H,Q=>ItR g H a k Q
 | .ref a,.str k,H,Q=>LookS H a λl=>DAt (i9 l k) λx=>Q x H
 | _,_,_,_=>False
def vV(Z:Hp)(a:Addr)(v:V)(K:Hp->Prop):V->Prop
 | .int k=>PtR Z a k v K
 | .str k=>OwnS Z a λZ l=>Req (l.length<=10000) (K (upd Z a (.ds (x7 l k v))))
 | _=>False
def El(g:G)(n:Nat):V->Hp->VP->Prop
 | .tup l,H,Q=>lAt l n λx=>Q x H
 | .ref a,H,Q=>LookR g H a λl=>lAt l n λx=>Q x H
 | _,_,_=>False
def yZ(l:List V):V->Hp->VP->Prop
 | .int n,H,Q=>Pick l n λx=>Q x H
 | _,_,_=>False
def yx(y c:Option Int):V->Hp->VP->Prop
 | .tup l,H,Q=>Req (l.length<=10000) (Q (.tup (slc y c l)) H)
 | .str x,H,Q=>Req (x.length<=10000) (Q (.str (sls y c x)) H)
 | .ref a,H,Q=>Look H a λl=>Req (l.length<=10000) (New H λb=>Q (.ref b) (upd H b (.L (slc y c l))))
 | _,_,_=>False
def Av(t:TY):V->Hp->VP->Prop
 | .none,Z,Q=>Q (.bool false) Z
 | .bool _,Z,Q=>match t with
  | .int=>Q (.bool true) Z
  | .bool=>Q (.bool true) Z
  | _=>Q (.bool false) Z
 | .int _,Z,Q=>match t with
  | .int=>Q (.bool true) Z
  | _=>Q (.bool false) Z
 | .str _,Z,Q=>match t with
  | .str=>Q (.bool true) Z
  | _=>Q (.bool false) Z
 | .tup _,Z,Q=>match t with
  | .tuple=>Q (.bool true) Z
  | _=>Q (.bool false) Z
 | .ref a,Z,Q=>Look Z a λz_=>match t with
  | .list=>Q (.bool true) Z
  | _=>Q (.bool false) Z
def Dt(g:G)(Q:VP)(Z:Hp):V->Prop
 | .tup l=>Req (l.length<=10000) (Q (.int l.length) Z)
 | .str x=>Req (x.length<=10000) (Q (.int x.length) Z)
 | .ref a=>LookR g Z a λl=>Req (l.length<=10000) (Q (.int l.length) Z)
 | _=>False
def yt(Q:VP)(Z:Hp):V->Prop
 | .tup l=>Q (.tup l) Z
 | .ref a=>Look Z a λl=>Req (l.length<=10000) (Q (.tup l) Z)
 | _=>False
def wg(Q:VP)(Z:Hp):V->Prop
 | .tup l=>Req (l.length<=10000) (New Z λb=>Q (.ref b) (upd Z b (.L l)))
 | .ref a=>Look Z a λl=>Req (l.length<=10000) (New Z λb=>Q (.ref b) (upd Z b (.L l)))
 | _=>False
def m5(P:Addr->Prop):V->Prop
 | .ref a=>P a
 | _=>False
def Eo(P:Bool->Prop):V->Prop
 | .bool a=>P a
 | _=>False
def L7(P:Str->Prop):V->Prop
 | .str a=>P a
 | _=>False
def D7(P:Int->Prop):V->Prop
 | .int a=>P a
 | _=>False
def un(P:V->Prop):List V->Prop
 | [x]=>P x
 | _=>False
def duo(P:V->V->Prop):List V->Prop
 | [x,y]=>P x y
 | _=>False
def vR(Z:Hp)(Q:VP):List V->Prop
 | [x,y]=>A6 (λa b=>Q (.int (min a b)) Z) x y
 | _=>False
noncomputable def b2i(b:Bool):Int:=bif b then 1 else 0
def Kz(Z:Hp)(Q:VP):V->Prop
 | .tup _=>Q (.bool true) Z
 | .ref a=>Look Z a λz_=>Q (.bool true) Z
 | _=>False
def wIt(Q:List V->(Hp->Prop)->Hp->Prop)(Z:Hp):V->Prop
 | .tup L=>Q L (λz_=>True) Z
 | .str x=>Q (H3 x) (λz_=>True) Z
 | .ref a=>Look Z a λL=>Q L (λZ=>Z a=some (.L L)) Z
 | _=>False
def R8:List Nat->List V->Lo->(Lo->Prop)->Prop
 | [],[],c,K=>K c
 | i::q,v::u,c,K=>R8 q u (c.set i (some v)) K
 | _,_,_,_=>False
def uX(P:List V->Prop):V->Prop
 | .tup a=>P a
 | _=>False
def C8:Nat->List V->List V->(List V->List V->Prop)->Prop
 | 0,l,s,k=>k l s
 | n+1,l,x::s,k=>C8 n (x::l) s k
 | _+1,_,[],_=>False
theorem bV3{s:List V}:∀ (r F:List V),C8 r.length F (r++s) k->k (r.reverseAux F) s:=by
 intro r;induction r with
 | nil=>exact λF h=>h
 | cons x r c=>exact λF h=>c (x::F) h
theorem D6{s:List V}(e:l.length=n)(h:C8 n [] (l.reverseAux s) k):k l s:=by
 have q:=bV3 (k:=k) (s:=s) l.reverse [] (by rw[iU,e,<- List.reverseAux_eq];exact h)
 rw[List.reverseAux_eq,List.reverse_reverse,bI] at q;exact q
def s1(f:V->List V->Prop):List V->Prop
 | x::s=>f x s
 | _=>False
def s2(f:V->V->List V->Prop):List V->Prop
 | y::x::s=>f x y s
 | _=>False
def s3(f:V->V->V->List V->Prop):List V->Prop
 | z::y::x::s=>f x y z s
 | _=>False
structure IE where
 ck:Tab->Scope->List Str->Expr->Bool
 w:Bool->KT->KT
 ok:∀ {T q c sc vs x K s J Z},TabOK c.g T->ck T sc vs x=true->w q K c s J Z->Ev c.g ⟨sc,vs,c.d,q⟩ x J Z (ps K c s J) (xC c J)
structure IO where
 ck:Tab->Scope->List Str->Option Expr->Bool
 w:Bool->KT->KT
 ok:∀ {T q c sc vs x K s J Z},TabOK c.g T->ck T sc vs x=true->w q K c s J Z->EvO c.g ⟨sc,vs,c.d,q⟩ x J Z (ps K c s J) (xC c J)
structure IEs where
 n:Nat
 ck:Tab->Scope->List Str->List Expr->Bool
 w:Bool->KT->KT
 st:∀ {T sc vs l},ck T sc vs l=true->∀ env pos,(backTo pos (mF l env)).any (·.1)=false
 len:∀ {T sc vs l},ck T sc vs l=true->l.length=n
 ok:∀ {T q c sc vs x K s J Z},TabOK c.g T->ck T sc vs x=true->w q K c s J Z->Evs c.g ⟨sc,vs,c.d,q⟩ x J Z (λl Z=>l.length=n/\K c (l.reverseAux s) J Z) (xC c J)
structure IT where
 ck:Tab->Scope->List Str->Expr->Bool
 w:Bool->KT->KT->KT
 ok:∀ {T q c sc vs x A B s J Z},TabOK c.g T->ck T sc vs x=true->w q A B c s J Z->Tst c.g ⟨sc,vs,c.d,q⟩ x J Z (λb Z=>Ite b (A c s J Z) (B c s J Z)) (xC c J)
structure II where
 ck:Tab->Scope->List Str->Expr->Bool
 w:Bool->(List V->(Hp->Prop)->KT)->KT
 ok:∀ {T q c sc vs x M s J Z},TabOK c.g T->ck T sc vs x=true->w q M c s J Z->Itr c.g ⟨sc,vs,c.d,q⟩ x J Z (λL P Z=>M L P c s J Z) (xC c J)
section
variable{g:G}{vs:List Str}{d:Nat}{q:Bool}{J:Lo}{Q:VP}{QB:BP}{X:XP}
theorem v6(h:n<=10000):n<=sizeLine:=aj h (by decide)
theorem bZ5(h:FP x y Z Q):mK g F (binaryOp .Add) x y J Z Q X:=by
 cases x with
 | int a=>cases y with
  | int b=>exact RD h
  | _=>exact h.elim
 | str a=>cases y with
  | str b=>obtain⟨p,k⟩:=h;exact Nh p k
  | _=>exact h.elim
 | tup a=>cases y with
  | tup b=>obtain⟨p,k⟩:=h;exact ci7 (v6 p) k
  | _=>exact h.elim
 | ref a=>cases y with
  | ref b=>obtain⟨l,Za,k,S,p,r⟩:=h;exact bp5 Za S (v6 p) r
  | _=>exact h.elim
 | _=>exact h.elim
theorem Yg(h:Cw x y Z Q):mK g F (binaryOp .Mult) x y J Z Q X:=by
 cases x with
 | int a=>cases y with
  | int b=>
   obtain⟨p,k⟩:=h;rcases p with p | p
   ·exact Qq p.1 p.2 k
   ·exact Ky p.1 p.2 k
  | _=>exact h.elim
 | ref a=>cases y with
  | int b=>obtain⟨l,Za,p,r⟩:=h;exact MN Za p.1 p.2.1 p.2.2 r
  | _=>exact h.elim
 | _=>exact h.elim
theorem D8(h:A6 P x y):∃ a b,x=.int a/\y=.int b/\P a b:=by
 cases x with
 | int a=>cases y with
  | int b=>exact⟨a,b,rfl,rfl,h⟩
  | _=>exact h.elim
 | _=>exact h.elim
theorem P6(h:D7 P x):∃ a,x=.int a/\P a:=by
 cases x with
 | int a=>exact⟨a,rfl,h⟩
 | _=>exact h.elim
theorem s9(h:m5 P x):∃ a,x=.ref a/\P a:=by
 cases x with
 | ref a=>exact⟨a,rfl,h⟩
 | _=>exact h.elim
theorem tL(h:L7 P x):∃ a,x=.str a/\P a:=by
 cases x with
 | str a=>exact⟨a,rfl,h⟩
 | _=>exact h.elim
theorem J8(h:Eo P x):∃ a,x=.bool a/\P a:=by
 cases x with
 | bool a=>exact⟨a,rfl,h⟩
 | _=>exact h.elim
theorem zf(h:uX P x):∃ a,x=.tup a/\P a:=by
 cases x with
 | tup a=>exact⟨a,rfl,h⟩
 | _=>exact h.elim
theorem E6(h:un P x):∃ a,x=[a]/\P a:=by
 cases x with
 | nil=>exact h.elim
 | cons a l=>cases l with
  | nil=>exact⟨a,rfl,h⟩
  | cons _ _=>exact h.elim
theorem Xz(h:duo P x):∃ a b,x=[a,b]/\P a b:=by
 cases x with
 | nil=>exact h.elim
 | cons a l=>cases l with
  | nil=>exact h.elim
  | cons b l=>cases l with
   | nil=>exact⟨a,b,rfl,h⟩
   | cons _ _=>exact h.elim
theorem Bb(h:uR x P):∃ k,OptInt x k/\P k:=by
 cases x with
 | none=>exact⟨_,.none,h⟩
 | int i=>exact⟨_,.int i,h⟩
 | _=>exact h.elim
theorem Bp:∀ {P:List Str->Prop},V9 l P->∃ c,l=c.map .str/\P c:=by
 induction l with
 | nil=>intro P h;exact⟨[],rfl,h⟩
 | cons x l ih=>
  intro P h;cases x with
  | str x=>
   exact a7 (ih h) λc e k=>⟨x::c,by rw[e];rfl,k⟩
  | _=>exact h.elim
theorem Bl:∀ {i:Nat} {P:V->Prop},vAt l i P->∃ v,l[i]?=some (some v)/\P v:=by
 induction l with
 | nil=>intro i P h;cases i<;>exact h.elim
 | cons x l ih=>
  intro i P h;cases i with
  | zero=>cases x with
   | none=>exact h.elim
   | some v=>exact⟨v,rfl,h⟩
  | succ i=>exact ih h
theorem qQ:∀ {i:Nat} {P:V->Prop},lAt l i P->∃ v,l[i]?=some v/\P v:=by
 induction l with
 | nil=>intro i P h;cases i<;>exact h.elim
 | cons x l ih=>
  intro i P h;cases i with
  | zero=>exact⟨x,rfl,h⟩
  | succ i=>exact ih h
theorem bS0(h:DW op x y Z Q):mK g F (binaryOp op) x y J Z Q X:=by
 cases op with
 | Add=>exact bZ5 h
 | Mult=>exact Yg h
 | Sub=>refine g8 (D8 h) λa b Ja c k=>?_;subst Ja;subst c;exact NT k
 | Mod=>obtain⟨a,b,rfl,rfl,p,k⟩:=D8 h;exact Xu p k
 | FloorDiv=>obtain⟨a,b,rfl,rfl,p,k⟩:=D8 h;exact Mw p.1 p.2 k
 | _=>exact h.elim
theorem bH4(h:Look Z a λl=>InL n F.d l x Z Q):mK g F (compareOp (bif n then .NotIn else .In)) x (.ref a) J Z Q X:=by
 obtain⟨l,e,k⟩:=h;cases k with
 | ofStrs c y U hl k=>
  subst U hl;cases n with
  | true=>exact Ry e (by rw[gm] at k;exact k)
  | false=>exact FW e (by rw[fZ] at k;exact k)
 | mk hl U L k=>
  cases n with
  | true=>exact Wr e hl U L (by rw[gm] at k;exact k)
  | false=>exact Hv e hl U L (by rw[fZ] at k;exact k)
theorem yl{K:Type}[DecidableEq K](D:Kd g K){k:K}{l:List (K×V)}(e:Z a=some (D.ob l))(h:Q (.bool (n ^^ (i9 l k).isSome)) Z):mK g F (compareOp (bif n then .NotIn else .In)) (D.key k) (.ref a) J Z Q X:=by
 cases n with
 | true=>exact bl1 D e (by rw[gm] at h;exact h)
 | false=>exact bQ0 D e (by rw[fZ] at h;exact h)
theorem wZ(h:wIn n F.d Z Q x y):mK g F (compareOp (bif n then .NotIn else .In)) x y J Z Q X:=by
 cases y with
 | ref a=>cases h with
  | l h=>exact bH4 h
  | i k e h=>subst e;obtain⟨l,e,h⟩:=h;exact yl (kdI g) e h
  | s k e h=>subst e;obtain⟨l,e,h⟩:=h;exact yl (kdS g) e h
 | str y=>cases x with
  | str x=>cases n with
   | true=>exact bR8 h
   | false=>exact Oz h
  | _=>exact h.elim
 | tup l=>cases x with
  | str x=>cases n with
   | true=>exact h.elim
   | false=>refine a7 (Bp h) λc e k=>?_;exact ck0 e k
  | _=>exact h.elim
 | _=>exact h.elim
theorem bY9{E:Addr}(M:Z a=some (.L x))(Y:Z b=some (.L y))(u:Z E=some (.L x))(Ja:Z K=some (.L y))(L:flatL x=true)(O:flatL y=true)(S:depL x+2<=8*F.d)(T:depL y+2<=8*F.d)(h:Q (.bool false) Z):mK g F (compareOp .NotEq) (.tup [.ref a,.ref b]) (.tup [.ref E,.ref K]) J Z Q X:=λA R s v w I rv D=>by
 have H:∀ {a b:Addr} {v:Value},Z a=some (.L x)->Z b=some (.L y)->Rep s.heap v (.tup [.ref a,.ref b])->∃ C,Reads s.heap v (.tuple [.list (g7 x),.list (g7 y)]) C:=fun{a b v} M Y r=>by
  refine j8 r.ofTup λc vs n qa P r2=>?_;subst qa
  refine g8 r2.two λu1 u2 e r1 r3=>?_
  obtain rfl:=r1.ofRef;obtain rfl:=r3.ofRef;have z:∃ C,ReadsAll s.heap vs.toList [.list (g7 x),.list (g7 y)] C:=by rw[e];exact⟨_,.cons (mU I M L) (.cons (mU I Y O) .nil)⟩
  exact d4 z λC z=>⟨_,.tuple P rfl rfl z⟩
 refine d4 (H M Y rv) λC r1=>d4 (H u Ja D) λbs r2=>?_
 have Za:PyData.canLayAll0 [.list (g7 x),.list (g7 y)]=true:=by
  show(PyData.canLayAll0 (g7 x)&&(PyData.canLayAll0 (g7 y)&&true))=true;rw[G1 L,G1 O];rfl
 have U:PyData.depthAll [.list (g7 x),.list (g7 y)]+1<=8*F.d:=by
  show max (PyData.depthAll (g7 x)+1) (max (PyData.depthAll (g7 y)+1) 0)+1<=_;unfold depL at S T;lia
 refine SeqAt.compareNe_reads r1 r2 Za Za (show A.units+min (PyData.depthAll [.list (g7 x),.list (g7 y)]+1) (PyData.depthAll [.list (g7 x),.list (g7 y)]+1)<cLine by rw[lV];exact bA (cM U _) I.units) (n6 I ?_)
 have e:PyData.eqv (.tuple [.list (g7 x),.list (g7 y)]) (.tuple [.list (g7 x),.list (g7 y)])=true:=SeqAt.eqvAll_refl _ Za;rw[e];exact h
theorem MT(h:EqT false F.d l k Z Q):mK g F (compareOp .Eq) (.tup l) (.tup k) J Z Q X:=by
 cases h with
 | nil K c A h=>subst K;exact JH A h
 | refs a b E C x y el I M Y u w Ja O D H c h=>cases c
 | mk hl K L h=>exact tU hl K (by show min (PyData.depthAll (g7 l)+1) (PyData.depthAll (g7 k)+1)<=_;rw[fV];exact L) (by rw[fZ] at h;exact h)
theorem ZW(h:EqT true F.d l k Z Q):mK g F (compareOp .NotEq) (.tup l) (.tup k) J Z Q X:=by
 cases h with
 | nil K w O h=>cases w
 | refs a b E Ja x y el D M Y u c H I A C w h=>subst el D;exact bY9 M Y u c H I A C h
 | mk hl K L h=>exact vg hl K (by show min (PyData.depthAll (g7 l)+1) (PyData.depthAll (g7 k)+1)<=_;rw[fV];exact L) (by rw[gm] at h;exact h)
theorem cs7(Za:Z a=some (.L l))(S:Z b=some (.L k))(h:EqL false F.d l k Z Q):mK g F (compareOp .Eq) (.ref a) (.ref b) J Z Q X:=by
 cases h with
 | mk a b c r=>exact bX8 Za S a b c (by rw[fZ] at r;exact r)
theorem Ms(Za:Z a=some (.L l))(S:Z b=some (.L k))(h:EqL true F.d l k Z Q):mK g F (compareOp .NotEq) (.ref a) (.ref b) J Z Q X:=by
 cases h with
 | mk a b c r=>exact Ke Za S a b c (by rw[gm] at r;exact r)
theorem WM(h:wEq F.d Z Q x y):mK g F (compareOp .Eq) x y J Z Q X:=by
 cases x with
 | int a=>cases y with
  | int b=>exact bN4 h
  | _=>exact h.elim
 | str a=>cases y with
  | str b=>exact eq_str h
  | _=>exact h.elim
 | bool a=>cases y with
  | bool b=>exact cw4 h
  | _=>exact h.elim
 | none=>cases y with
  | int b=>exact bM9 h
  | _=>exact h.elim
 | tup a=>cases y with
  | tup b=>exact MT h
  | _=>exact h.elim
 | ref a=>cases y with
  | ref b=>obtain⟨l,h1,k,h2,r⟩:=h;exact cs7 h1 h2 r
  | _=>exact h.elim
theorem Jy(h:wNe F.d Z Q x y):mK g F (compareOp .NotEq) x y J Z Q X:=by
 cases x with
 | int a=>cases y with
  | int b=>exact ZG h
  | _=>exact h.elim
 | str a=>cases y with
  | str b=>exact ne_str h
  | _=>exact h.elim
 | bool a=>cases y with
  | bool b=>exact Qa h
  | _=>exact h.elim
 | none=>cases y with
  | int b=>exact Pu h
  | _=>exact h.elim
 | tup a=>cases y with
  | tup b=>exact ZW h
  | _=>exact h.elim
 | ref a=>cases y with
  | ref b=>obtain⟨l,h1,k,h2,r⟩:=h;exact Ms h1 h2 r
  | _=>exact h.elim
theorem T4(h:L1 F.d op x y Z Q):mK g F (compareOp op) x y J Z Q X:=by
 cases op with
 | Lt=>refine g8 (D8 h) λa b Ja c k=>?_;subst Ja;subst c;exact cc4 k
 | LtE=>refine g8 (D8 h) λa b Ja c k=>?_;subst Ja;subst c;exact Vf k
 | Gt=>refine g8 (D8 h) λa b Ja c k=>?_;subst Ja;subst c;exact Qj k
 | GtE=>refine g8 (D8 h) λa b Ja c k=>?_;subst Ja;subst c;exact cg9 k
 | Eq=>exact WM h
 | NotEq=>exact Jy h
 | In=>exact wZ (n:=false) h
 | NotIn=>exact wZ (n:=true) h
 | _=>exact h.elim
theorem nC(h:V5 x Z QB):Tru g F x J Z QB X:=by
 cases x with
 | bool b=>exact vY h
 | int b=>exact bn8 h
 | _=>exact h.elim
theorem bH7(h:Em g x y Z Q):Itm g F x y J Z Q X:=by
 cases x with
 | tup l=>cases y with
  | int k=>obtain⟨Y,Za,M,r⟩:=h;exact QF Y Za M r
  | _=>exact h.elim
 | str x=>cases y with
  | int k=>obtain⟨Y,Za,M,r⟩:=h;exact bn7 Y Za M r
  | _=>exact h.elim
 | ref a=>cases y with
  | int k=>
   cases h with
   | d h=>obtain⟨l,e,v,S,r⟩:=h;exact zm (kdI g) e S r
   | l h=>
    cases h with
    | mk l e r=>obtain⟨Y,Za,M,r⟩:=r;exact Nf e Y Za M r
    | scr E e r=>
     obtain⟨Y,Za,M,r⟩:=r;rw[aq] at Za;have hl:=uU Y Za;exact vL e Y M (ak hl) (r _ (by rw[aB,ak hl];rfl))
  | str k=>obtain⟨l,e,v,S,r⟩:=h;exact zm (kdS g) e S r
  | _=>exact h.elim
 | _=>exact h.elim
theorem Jt(u:n<=10000)(h:El g n x Z Q):Itm g F x (.int n) J Z Q X:=by
 have M:(n:Int)<2 ^ 63:=by exact U4 u
 cases x with
 | tup l=>
  refine a7 (qQ h) λv e p=>?_
  exact Er (by exact bB _) M (tG (bB n) (aQ.mpr ((aF.mp e).1))) e p
 | ref a=>
  cases h with
  | mk l e r=>
   exact a7 (qQ r) λv c p=>rP e (bB n) M c p
  | scr w e r=>
   refine a7 (qQ r) λv c p=>?_
   rw[aB] at c;refine a7 (aR.mp c) λm E C=>?_
   subst C;exact vL e (bB n) M E p
 | _=>exact h.elim
theorem Np(h:yx y c x Z Q):Slc g F x y c J Z Q X:=by
 cases x with
 | tup l=>obtain⟨p,k⟩:=h;exact Jz (v6 p) k
 | str l=>obtain⟨p,k⟩:=h;exact aY9 p k
 | ref a=>obtain⟨l,e,p,k⟩:=h;exact Qo e (v6 p) k
 | _=>exact h.elim
theorem Rf(h:Av t x Z Q):mQ g F (λy=>call (.builtin "isinstance") [y,.type t.nm]) x J Z Q X:=(λA R s y I r=>by
 cases x with
 | none=>
  obtain rfl:=r.ofNone;cases t
  ·exact IsiPair.NoneType_int (n7 I h)
  ·exact IsiPair.NoneType_bool (n7 I h)
  ·exact IsiPair.NoneType_str (n7 I h)
  ·exact IsiPair.NoneType_tuple (n7 I h)
  ·exact IsiPair.NoneType_list (n7 I h)
 | bool c=>
  obtain rfl:=r.ofBool;cases t
  ·first | exact IsiPair.bool_int (n6 I h) | exact IsiPair.bool_int (n7 I h)
  ·exact IsiPair.bool_bool (n6 I h)
  ·exact IsiPair.bool_str (n7 I h)
  ·exact IsiPair.bool_tuple (n7 I h)
  ·exact IsiPair.bool_list (n7 I h)
 | int i=>
  refine d4 r.ofInt λu Ja=>?_;subst Ja
  cases t
  ·exact IsiPair.int_int (n6 I h)
  ·exact IsiPair.int_bool (n7 I h)
  ·exact IsiPair.int_str (n7 I h)
  ·exact IsiPair.int_tuple (n7 I h)
  ·exact IsiPair.int_list (n7 I h)
 | str i=>
  refine d4 r.ofStr λu Ja=>?_;subst Ja
  cases t
  ·exact IsiPair.str_int (n7 I h)
  ·exact IsiPair.str_bool (n7 I h)
  ·exact IsiPair.str_str (n6 I h)
  ·exact IsiPair.str_tuple (n7 I h)
  ·exact IsiPair.str_list (n7 I h)
 | tup l=>
  refine j8 r.ofTup λa vs n Ja w N=>?_;subst Ja
  cases t
  ·exact IsiPair.tuple_int w rfl (n7 I h)
  ·exact IsiPair.tuple_bool w rfl (n7 I h)
  ·exact IsiPair.tuple_str w rfl (n7 I h)
  ·exact IsiPair.tuple_tuple w rfl (n6 I h)
  ·exact IsiPair.tuple_list w rfl (n7 I h)
 | ref a=>
  k_extra"bu";obtain⟨l,e,h⟩:=h;obtain⟨vs,⟨n,C⟩,-⟩:=(I.sim.objs a _ e).1;cases t
  ·exact IsiPair.list_int C rfl (n7 I h)
  ·exact IsiPair.list_bool C rfl (n7 I h)
  ·exact IsiPair.list_str C rfl (n7 I h)
  ·exact IsiPair.list_tuple C rfl (n7 I h)
  ·exact IsiPair.list_list C rfl (n6 I h))
theorem SX(h:Dt g Q Z x):Cl g F (.builtin "len") [x] J Z Q X:=by
 cases x with
 | tup l=>obtain⟨p,k⟩:=h;exact Zj (by exact U4 p) k
 | str l=>obtain⟨p,k⟩:=h;exact Ri (by exact U4 p) k
 | ref a=>
  cases h with
  | mk l e r=>obtain⟨p,k⟩:=r;exact Yc e (by exact U4 p) k
  | scr E e r=>obtain⟨p,k⟩:=r;rw[aq] at p k;exact QK e (by exact U4 p) k
 | _=>exact h.elim
theorem HF(h:yt Q Z x):Cl g F (.type "tuple") [x] J Z Q X:=by
 cases x with
 | tup l=>exact Ys h
 | ref a=>obtain⟨l,e,p,k⟩:=h;exact cw0 e (v6 p) k
 | _=>exact h.elim
theorem Jo(h:wg Q Z x):Cl g F (.type "list") [x] J Z Q X:=by
 cases x with
 | tup l=>obtain⟨p,k⟩:=h;exact RZ (v6 p) k
 | ref a=>obtain⟨l,e,p,k⟩:=h;exact WP e (v6 p) k
 | _=>exact h.elim
theorem Hf(h:vR Z Q l):Cl g ⟨sc,vs,d,true⟩ (.builtin "min") l J Z Q X:=by
 cases l with
 | nil=>exact h.elim
 | cons x l=>cases l with
  | nil=>exact h.elim
  | cons y l=>cases l with
   | nil=>refine g8 (D8 h) λa b Ja c k=>?_;subst Ja;subst c;exact RG k
   | cons _ _=>exact h.elim
theorem Own.elim(h:Own Z a K):∃ l u,Z a=some (.L l)/\K u l/\∀ o,upd Z a o=upd u a o:=by
 cases h with
 | top k=>exact⟨_,_,d6 _ _ _,k,λo=>S0 _ _ _ _⟩
 | mk l h k=>exact⟨l,Z,h,k,λz_=>rfl⟩
theorem OwnI.elim(h:OwnI Z a K):∃ l u,Z a=some (.di l)/\K u l/\∀ o,upd Z a o=upd u a o:=by
 cases h with
 | top k=>exact⟨_,_,d6 _ _ _,k,λo=>S0 _ _ _ _⟩
 | mk l h k=>exact⟨l,Z,h,k,λz_=>rfl⟩
theorem OwnS.elim(h:OwnS Z a K):∃ l u,Z a=some (.ds l)/\K u l/\∀ o,upd Z a o=upd u a o:=by
 cases h with
 | top k=>exact⟨_,_,d6 _ _ _,k,λo=>S0 _ _ _ _⟩
 | mk l h k=>exact⟨l,Z,h,k,λz_=>rfl⟩
theorem Xn(h:vV Z a v K k):StI g F (.ref a) k v J Z K:=by
 cases k with
 | int n=>
  cases h with
  | l h=>
   obtain⟨l,Z',e,⟨⟨Y,Za,S⟩,k⟩,u⟩:=h.elim;exact cr1 e Y Za (bG (bj.mpr S) (by decide)) (by rw[u];exact k)
  | d h=>
   obtain⟨l,Z',e,⟨p,k⟩,u⟩:=h.elim;exact Dr (kdI g) e (v6 p) (by show K (upd Z a _);rw[u];exact k)
 | str n=>
  obtain⟨l,Z',e,⟨p,k⟩,u⟩:=OwnS.elim h;exact Dr (kdS g) e (v6 p) (by show K (upd Z a _);rw[u];exact k)
 | _=>exact h.elim
theorem by1(h:Own Z a λZ k=>Req (k.length<=10000) (Q .none (upd Z a (.L (k++[x]))))):Cl g F (.builtin "list.append") [.ref a,x] J Z Q X:=by
 obtain⟨l,Z',e,⟨p,k⟩,u⟩:=h.elim;clear h;exact Ju e (v6 p) (by rw[u];exact k)
theorem cd9(h:D7 (λn=>Own Z a λZ k=>Req (k.length<=10000/\0<=n/\n<k.length) (∀ x,k[n.toNat]?=some x->Q x (upd Z a (.L (k.eraseIdx n.toNat))))) x):Cl g F (.builtin "list.pop") [.ref a,x] J Z Q X:=by
 refine a7 (P6 h) λn Ja k=>?_;clear h;subst Ja
 obtain⟨l,w,e,⟨p,k⟩,u⟩:=k.elim;have c:=uU p.2.1 p.2.2;exact Zc e p.1 p.2.1 p.2.2 (ak c) (by rw[u];exact k _ (ak c))
end
section
variable{g:G}{T:Tab}{vs:List Str}{d:Nat}{q:Bool}{J:Lo}{Q:VP}{QB:BP}{X:XP}
theorem p9(h:gl sc x=true):sc.names.lookup x=some .globalImplicit/\(x==("__debug__" : Str))=false:=⟨f4 (b9 h).1,m6 (b9 h).2⟩
theorem OJ(D:TabOK g T)(h:zU (T.lookup x)=true):Fn g x:=by
 cases e:T.lookup x with
 | none=>rw[e] at h;exact(az h).elim
 | some it=>cases it with
  | fn k=>exact⟨_,_,_,D.at' e⟩
  | _=>rw[e] at h;exact(az h).elim
theorem nj{id:String}(hT:TabOK g T)(h:L6 id (T.lookup x)=true):Bi g x (.builtin id):=by
 cases e:T.lookup x with
 | none=>rw[e] at h;exact(az h).elim
 | some it=>cases it with
  | bi k=>rw[e] at h;exact(f4 h:k=id)▸hT.at' e
  | _=>rw[e] at h;exact(az h).elim
theorem x6{id:String}(hT:TabOK g T)(h:D5 id (T.lookup x)=true):Bi g x (.type id):=by
 cases e:T.lookup x with
 | none=>rw[e] at h;exact(az h).elim
 | some it=>cases it with
  | ty k=>rw[e] at h;exact(f4 h:k=id)▸hT.at' e
  | _=>rw[e] at h;exact(az h).elim
theorem ck3{D:List (Str×Int)}(hT:TabOK g T)(h:Fi D (T.lookup x)=true):Gd g x D:=by
 cases e:T.lookup x with
 | none=>rw[e] at h;exact(az h).elim
 | some it=>cases it with
  | dict k=>rw[e] at h;exact(f4 h:k=D)▸hT.at' e
  | _=>rw[e] at h;exact(az h).elim
theorem Ho(h:isC (some c) v=true)(hq:Q v Z):Ev g ⟨sc,vs,d,q⟩ (.Constant c k p) J Z Q X:=by
 cases c with
 | none=>cases v with
  | none=>exact Yb hq
  | _=>exact(az h).elim
 | bool b=>cases v with
  | bool c=>exact Hr ((f4 h:b=c)▸hq)
  | _=>exact(az h).elim
 | int b=>cases v with
  | int c=>exact ck8 ((f4 h:b=c)▸hq)
  | _=>exact(az h).elim
 | str b=>cases v with
  | str c=>exact Wf ((f4 h:b=c)▸hq)
  | _=>exact(az h).elim
 | _=>exact(az h).elim
theorem U5(h:isC (D9 x) v=true)(u:Q v Z):Ev g ⟨sc,vs,d,q⟩ x J Z Q X:=by
 cases e:D9 x with
 | none=>rw[e] at h;exact(az h).elim
 | some c=>refine k9 (wF e) λk p qa=>?_;subst qa;rw[e] at h;exact Ho h u
theorem Qt(hT:TabOK g T)(h:isG T sc v (s0 x)=true)(hq:Q v Z):Ev g ⟨sc,vs,d,q⟩ x J Z Q X:=by
 cases e:s0 x with
 | none=>rw[e] at h;exact(az h).elim
 | some n=>
  refine d4 (B9 e) λp qa=>?_;subst qa
  rw[e] at h;refine d5 (b9 h) λh1 h2=>?_;clear h
  refine d5 (p9 h1) λh3 h4=>?_;clear h1
  cases e:T.lookup n with
  | none=>rw[e] at h2;exact(az h2).elim
  | some it=>cases it with
   | int i=>cases v with
    | int j=>rw[e] at h2;exact Lf (hT.at' e) h3 h4 ((f4 h2:i=j)▸hq)
    | _=>rw[e] at h2;exact(az h2).elim
   | str i=>cases v with
    | str j=>rw[e] at h2;exact bR5 (hT.at' e) h3 h4 ((f4 h2:i=j)▸hq)
    | _=>rw[e] at h2;exact(az h2).elim
   | _=>rw[e] at h2;exact(az h2).elim
theorem mK.mono(h:mK g F t a b J Z Q X)(k:∀ v Z,Q v Z->c v Z):mK g F t a b J Z c X:=(λA R s x y I r1 r2=>
 pgo (h A R s x y I r1 r2) (λN N V u r i y q=>(λN w=>w V u r i y (k _ _ q))) λN N p=>p)
theorem Tru.mono(h:Tru g F a J Z QB X)(k:∀ v Z,QB v Z->c v Z):Tru g F a J Z c X:=(λA R s x I r=>
 C5 (h A R s x I r) (λN N u i y q=>(λN w=>w u i y (k _ _ q))) λN N p=>p)
theorem Tst.mono(h:Tst g F e J Z QB X)(k:∀ v Z,QB v Z->c v Z):Tst g F e J Z c X:=(λA R s I=>
 C5 (h A R s I) (λN N u i y q=>(λN w=>w u i y (k _ _ q))) λN N p=>p)
theorem Ud:eval (R6 o p r M) env=boolOp p o (evalEach (r::M) env):=by cases M<;>rfl
theorem aZ5(h:Tst g F (R6 .And p r M) J Z QB X):F5 g F .And (r::M) J Z QB X:=by
 cases M with
 | nil=>exact zT (Tst.mono h λb Z Y=>⟨λe=>cq0 (e▸Y),λe=>e▸Y⟩)
 | cons _ _=>exact(λA env s I=>h A env s I)
theorem Ze(h:Tst g F (R6 .Or p r M) J Z QB X):F5 g F .Or (r::M) J Z QB X:=by
 cases M with
 | nil=>exact Ed (Tst.mono h λb Z Y=>⟨λe=>e▸Y,λe=>Vo (e▸Y)⟩)
 | cons _ _=>exact(λA env s I=>h A env s I)
theorem Oe(h:isC (D9 x) v=true):M3 x=none:=by
 cases e:D9 x with
 | none=>rw[e] at h;exact(az h).elim
 | some c=>refine k9 (wF e) λk p qa=>?_;subst qa;rfl
theorem EvO.mono(h:EvO g F e J Z Q X)(k:∀ v Z,Q v Z->c v Z):EvO g F e J Z c X:=(λA env s I=>
 pgo (h A env s I) (λN N V Z' r i y q=>(λN k_=>k_ V Z' r i y (k _ _ q))) λN N p=>p)
theorem Xl{l:List (Bool×Sem Value)}(h:l.any (·.1)=false):l.all (λx=>!x.1)=true:=by
 rw[List.all_eq_not_any_not];simp only[lO];rw[h];rfl
theorem X9{as:List Expr}(h:(backTo p (mF as env)).any (·.1)=false)(hl:as.length<20):((backTo p (mF as env)).all (λx=>!x.1)&&(backToKw p (keywordEach [] env)).all (λx=>x.1.isSome)
   && decide (as.length+([]:List Keyword).length+(if ([]:List Keyword).isEmpty then 0 else 1)<30))=true:=by
 rw[Xl h];exact decide_eq_true (by simp;exact aj hl (aZ ..))
end
def IE.k(v:V):IE where
 ck T sc _ x:=isC (D9 x) v||isG T sc v (s0 x)
 w _ K:=λc s J Z=>K c (v::s) J Z
 ok D O h:=by
  rcases(fJ _ _).mp O with e | e
  ·exact U5 e h
  ·exact Qt D e h
def IE.v(i:Nat):IE where
 ck _ _ vs x:=e7 (s0 x) λn=>decide (vs[i]?=some n) && !(n==("__debug__" : Str))
 w _ K:=λc s J Z=>vAt J i λv=>K c (v::s) J Z
 ok _ O h:=by
  apply W6 O;intro n p u;refine a7 (Bl h) λv E k=>?_;clear h
  exact Ey (f4 (b9 u).1) E k (m6 (b9 u).2)
def bv2(op:Operator)(K:KT):KT:=λc s J Z=>s2 (λx y s=>DW op x y Z (ps K c s J)) s
def IE.bin(op:Operator)(a b:IE):IE where
 ck T sc vs x:=e7 (oO x) (bV7 op (a.ck T sc vs) (b.ck T sc vs))
 w q K:=a.w q (b.w q (bv2 op K))
 ok D O h:=by
  apply wH O;intro l o r p hc1;k_extra"g"
  obtain rfl:=f4 h1;exact Al ((a.ok D h2 h).mono λx Z h=>(b.ok D h3 h).mono λy Z h=>bS0 h)
def oF(op:CmpOp)(K:KT):KT:=λc s J Z=>s2 (λx y s=>L1 c.d op x y Z (ps K c s J)) s
def IE.cmp(op:CmpOp)(a b:IE):IE where
 ck T sc vs x:=e7 (S7 x) (Zk op (a.ck T sc vs) (b.ck T sc vs))
 w q K:=a.w q (b.w q (oF op K))
 ok D O h:=by
  k_extra"U"
  k_extra"aM"
  k_extra"6"
  obtain rfl:=f4 h1;exact bj3 ((a.ok D h3 h).mono λx Z h=>(b.ok D h4 h).mono λy Z h=>T4 h) (m6 h2)
def pG(A B:KT):KT:=λc s J Z=>s1 (λv s=>V5 v Z λb Z=>Ite b (A c s J Z) (B c s J Z)) s
def IT.cmp(op:CmpOp)(a b:IE):IT where
 ck:=(IE.cmp op a b).ck
 w q A B:=a.w q (b.w q (oF op (pG A B)))
 ok {T q c sc vs x A B s J Z} D O h:=by
  k_extra"T";intro u P;k_extra"U"
  k_extra"aM"
  k_extra"6"
  obtain rfl:=f4 h1;exact P _ (wj ((a.ok D h3 h).mono λx Z h=>(b.ok D h4 h).mono λy Z h=>(T4 (F:=⟨sc,vs,c.d,q⟩) h).mono λt Z h=>nC h) (m6 h2))
def chK(M N:KT)(c:Cx)(s:List V)(J:Lo)(y:V):VP:=λt Z=>V5 t Z λu Z=>Ite u (M c (y::s) J Z) (N c (t::s) J Z)
def yr(o:CmpOp)(M N:KT):KT:=λc s J Z=>s2 (λx y s=>L1 c.d o x y Z (chK M N c s J y)) s
def IE.chain(o p:CmpOp)(a b c:IE):IE where
 ck T sc vs x:=e7 (S7 x) (Gw o p (a.ck T sc vs) (b.ck T sc vs) (c.ck T sc vs))
 w q K:=a.w q (b.w q (yr o (c.w q (oF p K)) K))
 ok {T q C sc vs x K s J Z} D hc h:=by
  k_extra"av"
  k_extra"cl"
  k_extra"cm"
  k_extra"j"
  obtain rfl:=f4 h1;obtain rfl:=f4 h2;refine P _ ?_;exact PJ ((a.ok D h4 h).mono λx Z h=>(b.ok D h5 h).mono λy Z h=>(T4 (F:=⟨sc,vs,C.d,q⟩) (show L1 C.d o1 x y Z (chK _ _ C s J y) from h)).mono λt Z h=>(nC h).mono λA Z i=>
   ⟨λe=>(c.ok D h6 (i.1 e)).mono λz Z h=>T4 (show L1 C.d o2 y z Z (ps K C s J) from h),i.2⟩) (m6 h3)
def Fb(K:KT):KT:=λc s J Z=>s1 (λz_ s=>K c s J Z) s
def IT.chain(o p:CmpOp)(a b c:IE):IT where
 ck:=(IE.chain o p a b c).ck
 w q A B:=a.w q (b.w q (yr o (c.w q (oF p (pG A B))) (Fb B)))
 ok {T q C sc vs x A B s J Z} D hc h:=by
  k_extra"av"
  k_extra"cl"
  k_extra"cm"
  k_extra"j"
  obtain rfl:=f4 h1;obtain rfl:=f4 h2;refine P _ ?_;exact co8 ((a.ok D h4 h).mono λx Z h=>(b.ok D h5 h).mono λy Z h=>(T4 (F:=⟨sc,vs,C.d,q⟩) (show L1 C.d o1 x y Z (chK _ _ C s J y) from h)).mono λt Z h=>(nC h).mono λE Z i=>
   ⟨λe=>(c.ok D h6 (i.1 e)).mono λz Z h=>(T4 (F:=⟨sc,vs,C.d,q⟩) (show L1 C.d o2 y z Z (ps (pG A B) C s J) from h)).mono λt Z h=>nC h,λe=>⟨λe=>tf e,λz_=>i.2 e⟩⟩) (m6 h3)
def Rc(K:KT):KT:=λc s J Z=>s1 (λx s=>V5 x Z λb Z=>K c (.bool (!b)::s) J Z) s
def IE.not(a:IE):IE where
 ck T sc vs x:=e7 (N7 x) λt=>decide (t.1=.Not)&&a.ck T sc vs t.2
 w q K:=a.w q (Rc K)
 ok D O h:=by
  k_extra"aN";exact yL ((a.ok D (b9 hc1).2 h).mono λx Z h=>HQ (nC h))
def IT.not(a:IT):IT where
 ck T sc vs x:=e7 (N7 x) λt=>decide (t.1=.Not)&&a.ck T sc vs t.2
 w q A B:=a.w q B A
 ok D O h:=by
  k_extra"aN";exact Hu ((a.ok D (b9 hc1).2 h).mono λt Z i=>by cases t<;>exact⟨λe=>i.2 (by first | rfl | exact tf e),λe=>i.1 (by first | rfl | exact ft e)⟩)
def XF(K:KT):KT:=λc s J Z=>s1 (λx s=>D7 (λi=>K c (.int (-i)::s) J Z) x) s
def IE.neg(a:IE):IE where
 ck T sc vs x:=e7 (N7 x) λt=>decide (t.1=.USub)&&a.ck T sc vs t.2
 w q K:=a.w q (XF K)
 ok D O h:=by
  k_extra"aN";refine yL ((a.ok D (b9 hc1).2 h).mono λx Z h=>a7 (P6 h) λi Ja k=>?_)
  clear h;subst Ja;exact bt7 k
def Wk(M K:KT):KT:=λc s q H=>s1 (λx s=>V5 x H λt H=>Ite t (M c s q H) (K c (x::s) q H)) s
def IE.and(a b:IE):IE where
 ck T sc vs x:=e7 (R2 x) λt=>decide (t.1=.And)&&pH t.2.1 λl r es=>a.ck T sc vs l&&b.ck T sc vs (R6 .And t.2.2 r es)
 w q K:=a.w q (Wk (b.w q K) K)
 ok {T q c sc vs x K s J Z} hT hc h:=by
  k_extra"T";intro P_ hP_;apply um hc;k_extra"K"
  refine hP_ _ (λA env s I=>?_)
  show wpAny _ A (do
   let v <- eval l env
   standAt p
   let t <- holding [v] (truthy v)
   match BoolOp.And,t with
   | .And,false | .Or,true=>pure v
   | _,_=>boolOp p .And (evalEach (r::es) env)) _ _ s
  refine lW (pgo (((a.ok hT (b9 hc2).1 h).mono λx Z h=>(nC (g:=c.g) (F:=⟨sc,vs,c.d,q⟩) (J:=J) (X:=xC c J) h)) A env s I) (λv sw V sv r I1 st1 h1=>lW (wpAny_standAt (lW (my (C5 (h1 A env sw v I1 r) (λt s₂ Z2 sy st2 h2=>?_) λN N p=>p.step st1))))) λN N p=>p)
  have st12:=st1.trans st2;obtain⟨i1,i2⟩:=h2;cases t with
  | false=>exact lX (λN k_=>k_ V Z2 (r.mono st2.tups) sy st12 (i2 rfl))
  | true=>
   show wpAny _ A (boolOp p .And _) _ _ s₂;rw[<- Ud];exact lY ((b.ok hT (b9 hc2).2 (i1 rfl)) A env s₂ sy) (λN N p=>p.step st12) λN N p=>p.step st12
def IT.and(a b:IT):IT where
 ck T sc vs x:=e7 (R2 x) λt=>decide (t.1=.And)&&pH t.2.1 λl r es=>a.ck T sc vs l&&b.ck T sc vs (R6 .And t.2.2 r es)
 w q A B:=a.w q (b.w q A B) B
 ok D O h:=by
  apply um O;k_extra"K"
  exact zW (zT ((a.ok D (b9 hc2).1 h).mono λt H i=>⟨λe=>aZ5 (b.ok D (b9 hc2).2 (i.1 e)),λe=>⟨λe=>tf e,λz_=>i.2 e⟩⟩))
def IT.or(a b:IT):IT where
 ck T c u x:=e7 (R2 x) λt=>decide (t.1=.Or)&&pH t.2.1 λl r es=>a.ck T c u l&&b.ck T c u (R6 .Or t.2.2 r es)
 w q A B:=a.w q A (b.w q A B)
 ok D O h:=by
  apply um O;k_extra"K"
  exact zW (Ed ((a.ok D (b9 hc2).1 h).mono λt H i=>⟨λe=>⟨λz_=>i.1 e,λe=>ft e⟩,λe=>Ze (b.ok D (b9 hc2).2 (i.2 e))⟩))
def IT.of(a:IE):IT where
 ck T c u x:=uv x&&a.ck T c u x
 w q A B:=a.w q (pG A B)
 ok D O h:=Ev.tst_of ((a.ok D (b9 O).2 h).mono λv H h=>nC h) (λR w=>cp9 (b9 O).1)
noncomputable def IEs.nil:IEs where
 n:=0
 ck _ _ _ l:=l.isEmpty
 w _ K:=K
 st hc env pos:=by obtain rfl:=bx.mp hc;rfl
 len hc:=by obtain rfl:=bx.mp hc;rfl
 ok hT hc h:=by obtain rfl:=bx.mp hc;exact qm ⟨rfl,h⟩
def Q4{c:Type}(l:List c)(f:c->List c->Bool):Bool:=match l with
 | x::l=>f x l
 | []=>false
theorem M0{c:Type}{l:List c}{f:c->List c->Bool}{P:List c->Prop}(h:Q4 l f=true)(k:∀ x r,f x r=true->P (x::r)):P l:=by
 cases l with
 | nil=>exact tf h
 | cons x r=>exact k x r h
def IEs.cons(a:IE)(M:IEs):IEs where
 n:=M.n+1
 ck T c u l:=Q4 l λe l=>!star e&&(a.ck T c u e&&M.ck T c u l)
 w q K:=a.w q (M.w q K)
 st hc R pos:=by
  apply M0 hc;k_extra"ad"
  rw[v7 (m6 h1)];exact M.st h3 R pos
 len hc:=by
  apply M0 hc;intro e l hc;exact congrArg (· + 1) (M.len (b9 (b9 hc).2).2)
 ok D hc h:=by
  apply M0 hc;k_extra"ad"
  exact V2 ((a.ok D h2 h).mono λv H h=>(M.ok D h3 h).mono λl H h=>⟨congrArg (· + 1) h.1,h.2⟩) (M.st h3) (λR=>v7 (m6 h1))
def cq9(n:Nat)(K:KT):KT:=λc s q H=>C8 n [] s λl s=>K c (.tup l::s) q H
def IE.tup(M:IEs):IE where
 ck T sc vs x:=e7 (F3 x) (oZ (M.ck T sc vs))
 w q K:=M.w q (cq9 M.n K)
 ok {T q c sc vs x K s J Z} hT hc h:=by
  apply rO hc;intro l k p Q;have u:=M.len (b9 Q).2;exact xE ((M.ok hT (b9 Q).2 h).mono λl Z h=>⟨v6 (by rw[h.1,<- u];exact(f4 (b9 Q).1)),D6 (k:=λl s=>K c (.tup l::s) J Z) h.1 h.2⟩)
def Wa(n:Nat)(K:KT):KT:=λc s q H=>C8 n [] s λl s=>New H λa=>K c (.ref a::s) q (upd H a (.L l))
def IE.L(M:IEs):IE where
 ck T sc vs x:=e7 (T9 x) (oZ (M.ck T sc vs))
 w q K:=M.w q (Wa M.n K)
 ok {T q c sc vs x K s J Z} hT hc h:=by
  apply ca0 hc;intro l p Q;have u:=M.len (b9 Q).2;exact uc ((M.ok hT (b9 Q).2 h).mono λl Z h=>⟨v6 (by rw[h.1,<- u];exact(f4 (b9 Q).1)),D6 (k:=λl s=>New Z λa=>K c (.ref a::s) J (upd Z a (.L l))) h.1 h.2⟩)
def Rt(K:KT):KT:=λc s q H=>s2 (λx y s=>Em c.g x y H (ps K c s q)) s
def IE.itm(a b:IE):IE where
 ck T c u x:=e7 (K9 x) (bP5 (a.ck T c u) (b.ck T c u))
 w q K:=a.w q (b.w q (Rt K))
 ok D O h:=by
  apply V3 O;intro l r p hc1;k_extra"g"
  exact rW ((a.ok D h2 h).mono λx H h=>(b.ok D h3 h).mono λy H h=>bH7 h) (λN N=>uF (cV.mp h1))
def Sg(n:Nat)(K:KT):KT:=λc s q H=>s1 (λx s=>El c.g n x H (ps K c s q)) s
def IE.itk(a:IE)(n:Nat):IE where
 ck T c u x:=e7 (K9 x) (br8 n (a.ck T c u))
 w q K:=a.w q (Sg n K)
 ok D O h:=by
  apply V3 O;intro l r p hc1;k_extra"g"
  exact rW ((a.ok D h3 h).mono λx H h=>U5 h1 (Jt (f4 h2) h)) (λN N=>uF (Oe h1))
def cp4(n:Nat)(K:KT):KT:=λc s q H=>s1 (λk s=>C8 n [] s λl s=>yZ l k H (ps K c s q)) s
def IE.pick(M:IEs)(i:IE):IE where
 ck T sc vs x:=e7 (K9 x) (Wz (i.ck T sc vs) (M.ck T sc vs))
 w q K:=M.w q (i.w q (cp4 M.n K))
 ok {T q c sc vs x K s J Z} hT hc h:=by
  k_extra"T";intro D P;apply V3 hc;intro l r p hc1;k_extra"g"
  refine a7 (i7 h3) λl e u=>d4 (rH e) λE Ja=>?_
  subst Ja;have hl:=f4 (b9 u).1;have C:=M.len (b9 u).2;refine P _ (Lr ((M.ok hT (b9 u).2 h).mono λl Z h=>⟨v6 (by rw[h.1,<- C];exact hl),(i.ok hT h2 h.2).mono λk Z A=>?_⟩) (λN N=>uF (cV.mp h1)))
  have A:=D6 (k:=λl s=>yZ l k Z (ps K c s J)) h.1 A
  cases k with
  | int n=>
   obtain⟨Y,h1,k⟩:=A;have y:=uU Y h1;exact⟨n,_,rfl,Y,by lia,ak y,k _ (ak y)⟩
  | _=>exact A.elim
noncomputable def IO.no:IO where
 ck _ _ _ x:=x.isNone
 w _ K:=λc s q H=>K c (.none::s) q H
 ok D O h:=by obtain rfl:=cV.mp O;exact JW h
def IO.e(a:IE):IO where
 ck T c q x:=e7 x (a.ck T c q)
 w:=a.w
 ok D O h:=by
  refine a7 (i7 O) λy e O=>?_;subst e
  exact Wc (a.ok D O h)
def cm5(K:KT):KT:=λc s q H=>s3 (λx u w s=>uR u λu=>uR w λw=>yx u w x H (ps K c s q)) s
def IE.slc(a:IE)(y A:IO):IE where
 ck T C E x:=e7 (K9 x) (Ij (a.ck T C E) (y.ck T C E) (A.ck T C E))
 w q K:=a.w q (y.w q (A.w q (cm5 K)))
 ok D O h:=by
  apply V3 O;intro l r p hc1;obtain⟨⟨u,w,z⟩,e,c⟩:=i7 hc1;clear hc1;refine d4 (Xx e) λP Ja=>?_;subst Ja
  obtain⟨Za,S,L,X⟩:=(b9 c).imp id λh=>(b9 h).imp id b9;clear c
  obtain rfl:=cV.mp Za;refine Ux ((a.ok D S h).mono λx H h=>(y.ok D L h).mono λu H h=>(A.ok D X h).mono λw H h=>a7 (Bb h) λF M h=>?_)
  exact a7 (Bb h) λI R h=>⟨F,I,M,R,Np h⟩
def rY(q:Bool)(f:Str)(n:Nat)(K:KT):KT:=λc s u H=>C8 n [] s λl s=>d8 c.g c.d q f l H (ps K c s u) (xC c u)
def IE.call(f:Str)(M:IEs):IE where
 ck T sc vs x:=s8 x (Qc T sc f (M.ck T sc vs))
 w q K:=M.w q (rY q f M.n K)
 ok {T q c sc vs x K s J Z} hT hc h:=by
  k_extra"T";intro u P;k_extra"f"
  k_extra"x"
  k_extra"cn"
  exact P _ (Io (OJ hT h3) h5 h6 ((M.ok hT h4 h).mono λl Z h=>D6 (k:=λl s=>d8 c.g c.d q n l Z (ps K c s J) (xC c J)) h.1 h.2))
abbrev WB:=Bool->G->List V->Hp->VP->Prop
def iBf(W:G->List V->Hp->VP->Prop)(n:Nat)(K:KT):KT:=λc s q H=>C8 n [] s λl s=>W c.g l H (ps K c s q)
def IE.bf(u:String)(W:WB)(h:∀ {q g sc vs d l J Z Q X},W q g l Z Q->Cl g ⟨sc,vs,d,q⟩ (.builtin u) l J Z Q X)(es:IEs):IE where
 ck T sc vs x:=s8 x (biC T sc (L6 u) (es.ck T sc vs))
 w q K:=es.w q (iBf (W q) es.n K)
 ok {T q c sc vs x K s J Z} hT hc h':=by
  k_extra"cP"
  k_extra"g"
  refine d5 (p9 h1) λh5 h6=>?_;clear h1
  exact P _ (u_b (nj hT h2) h5 ((es.ok hT h3 h').mono λl Z h'=>h (D6 (k:=λl s=>W q c.g l Z (ps K c s J)) h'.1 h'.2)) h6)
def IE.tyf(u:String)(W:WB)(h:∀ {q g sc vs d l J Z Q X},W q g l Z Q->Cl g ⟨sc,vs,d,q⟩ (.type u) l J Z Q X)(es:IEs):IE where
 ck T sc vs x:=s8 x (biC T sc (D5 u) (es.ck T sc vs))
 w q K:=es.w q (iBf (W q) es.n K)
 ok {T q c sc vs x K s J Z} hT hc h':=by
  k_extra"cP"
  k_extra"g"
  refine d5 (p9 h1) λh5 h6=>?_;clear h1
  exact P _ (u_t (x6 hT h2) h5 ((es.ok hT h3 h').mono λl Z h'=>h (D6 (k:=λl s=>W q c.g l Z (ps K c s J)) h'.1 h'.2)) h6)
def quiet(P:Prop)(q:Bool):Prop:=match q with
 | true=>P
 | false=>False
theorem L0{P:Prop}{C:Bool->Prop}(h:quiet P q)(k:P->C true):C q:=by
 cases q with
 | true=>exact k h
 | false=>exact h.elim
def IE.len(a:IE):IE:=.bf "len" (λz_ g l H Q=>un (Dt g Q H) l) (λh=>by refine a7 (E6 h) λx Ja k=>?_;subst Ja;exact SX k) (.cons a .nil)
def IE.all(a:IE):IE:=.bf "all" (λq N l H Q=>quiet (un (m5 λa=>AllB H a Q) l) q) (fun{q g c u d l w H Q X} h=>L0 (C:=λq=>Cl g ⟨c,u,d,q⟩ (.builtin "all") l w H Q X) h λh=>by
 refine a7 (E6 h) λx qa k=>?_;subst qa;obtain⟨a,rfl,M,e,k⟩:=s9 k;exact Ob rfl e k) (.cons a .nil)
def IE.int(a:IE):IE:=.tyf "int" (λN N l H Q=>un (Eo λb=>Q (.int (b2i b)) H) l) (λh=>by
 refine a7 (E6 h) λx qa k=>?_;subst qa;refine a7 (J8 k) λb qa k=>?_;subst qa;exact JV (by cases b<;>exact k)) (.cons a .nil)
def IE.min(a b:IE):IE:=.bf "min" (λq N l H Q=>quiet (vR H Q l) q) (fun{q g c u d l w H Q X} h=>L0 (C:=λq=>Cl g ⟨c,u,d,q⟩ (.builtin "min") l w H Q X) h λh=>Hf h) (.cons a (.cons b .nil))
def IE.max(a b:IE):IE:=.bf "max" (λq N l H Q=>quiet (duo (A6 λa b=>Q (.int (Max.max a b)) H) l) q) (fun{q g u w d l A H Q X} h=>L0 (C:=λq=>Cl g ⟨u,w,d,q⟩ (.builtin "max") l A H Q X) h λh=>by
 refine i6 (Xz h) λx y Ja k=>?_;subst Ja;refine g8 (D8 k) λa b Ja c k=>?_;subst Ja;subst c;exact Xm k) (.cons a (.cons b .nil))
inductive Srted(Z:Hp)(a:Addr)(Q:VP):Prop
 | mk (l:List Int) (h:Z a=some (.L (l.map .int))) (h64:l.length<64) (k:∀ b (l':List Int),Z b=none->l'.Perm l->Q (.ref b) (upd Z b (.L (l'.map .int)))):Srted Z a Q
def IE.sorted(a:IE):IE:=.bf "sorted" (λq N l H Q=>quiet (un (m5 λa=>Srted H a Q) l) q) (fun{q g c u d l w H Q X} h=>L0 (C:=λq=>Cl g ⟨c,u,d,q⟩ (.builtin "sorted") l w H Q X) h λh=>by
 refine a7 (E6 h) λx qa k=>?_;subst qa;obtain⟨a,rfl,l,e,S,k⟩:=s9 k;exact Hg e S k) (.cons a .nil)
def IE.tuple(a:IE):IE:=.tyf "tuple" (λN N l H Q=>un (yt Q H) l) (λh=>by refine a7 (E6 h) λx Ja k=>?_;subst Ja;exact HF k) (.cons a .nil)
def IE.list(a:IE):IE:=.tyf "list" (λN N l H Q=>un (wg Q H) l) (λh=>by refine a7 (E6 h) λx Ja k=>?_;subst Ja;exact Jo k) (.cons a .nil)
def IE.sum(a:IE):IE:=.bf "sum" (λq N l H Q=>quiet (un (m5 λa=>SumL H a Q) l) q) (fun{q g c u d l w H Q X} h=>L0 (C:=λq=>Cl g ⟨c,u,d,q⟩ (.builtin "sum") l w H Q X) h λh=>by
 refine a7 (E6 h) λx qa k=>?_;subst qa;obtain⟨a,rfl,E,e,k⟩:=s9 k;exact HX e k) (.cons a .nil)
def IE.dict(a:IE):IE:=.tyf "dict" (λq N l H Q=>quiet (un (m5 λa=>DOf H a Q) l) q) (fun{q g c u d l w H Q X} h=>L0 (C:=λq=>Cl g ⟨c,u,d,q⟩ (.type "dict") l w H Q X) h λh=>by
 refine a7 (E6 h) λx qa k=>?_;subst qa;obtain⟨a,rfl,ps,e,hn,hz,k⟩:=s9 k;exact by5 e hn hz k) (.cons a .nil)
def Xe(t:TY)(K:KT):KT:=λc s q H=>s1 (λx s=>Av t x H (ps K c s q)) s
def IE.isi(a:IE)(t:TY):IE where
 ck T c y x:=s8 x (biC T c (L6 "isinstance") (sY (a.ck T c y) (wM (tyN T c t.nm))))
 w q K:=a.w q (Xe t K)
 ok D hc h:=by
  k_extra"f"
  k_extra"g"
  k_extra"aO"
  k_extra"aF"
  refine a7 (i7 h5) λm e' hc3=>?_;clear h5
  refine d4 (B9 e') λp' qa=>?_;subst qa
  k_extra"b3"
  exact d5 (p9 (b9 hc3).1) λM u=>Fg (nj D h2) (x6 D (b9 hc3).2) h6 M ((a.ok D h4 h).mono λv H h=>Rf h) h7 u (λR=>v7 (m6 k3))
def Vt(K:KT):KT:=λc s q H=>s1 (λx s=>Kz H (ps K c s q) x) s
def IE.isl(a:IE):IE where
 ck T L S x:=s8 x (biC T L (L6 "isinstance") (sY (a.ck T L S) (Ur T L)))
 w q K:=a.w q (Vt K)
 ok D hc h:=by
  k_extra"f"
  k_extra"g"
  k_extra"aO"
  k_extra"aF"
  refine a7 (i7 h5) λl O A=>?_;clear h5
  refine k9 (X3 O) λY X qa=>?_;subst qa
  refine i6 (z9 A) λU Q qa F=>?_;clear A;subst qa
  refine a7 (i7 (b9 F).1) λZa P E=>d4 (B9 P) λc qa=>?_
  subst qa;refine a7 (i7 (b9 F).2) λt2 C H=>?_;clear F
  refine d4 (B9 C) λy qa=>?_;subst qa
  k_extra"b3"
  refine d5 (p9 (b9 E).1) λM u=>d5 (p9 (b9 H).1) λI Ja=>?_
  refine UT (nj D h2) (x6 D (b9 E).2) (x6 D (b9 H).2) h6 M I ((a.ok D h4 h).mono λv Z h=>?_) h7 u Ja (λR=>v7 (m6 k3))
  cases v with
  | tup l=>exact⟨.inr ⟨l,rfl⟩,h⟩
  | ref a=>obtain⟨l,e,h⟩:=(show Look _ _ _ from h);exact⟨.inl ⟨a,l,rfl,e⟩,h⟩
  | _=>exact False.elim h
def iMe(W:Addr->V->Hp->VP->Prop)(K:KT):KT:=λc s q H=>s2 (λo x s=>m5 (λa=>W a x H (ps K c s q)) o) s
def Dl(K:KT):KT:=λc s q H=>s1 (λo s=>m5 (λa=>Look H a λz_=>K c (o::s) q H) o) s
def IE.me(nm:Str)(u:String)(W:Addr->V->Hp->VP->Prop)(slot:Slot "list" nm u)(y:typeOf (.builtin u)=pure (.type "method_descriptor"))(h:∀ {g F a x J Z Q X},W a x Z Q->Cl g F (.builtin u) [.ref a,x] J Z Q X)(o e:IE):IE where
 ck T sc vs x:=e7 (A8 x) λt=>t.2.2.1.isEmpty&&e7 (E2 t.1) (sr nm (o.ck T sc vs) ((IEs.cons e .nil).ck T sc vs) t.2.1 t.2.2.2)
 w q K:=o.w q (Dl (e.w q (iMe W K)))
 ok {T q c sc vs x K s J Z} hT hc h':=by
  k_extra"T";intro D P;k_extra"M"
  k_extra"ak";intro H n E hc3;k_extra"j"
  obtain rfl:n=nm:=f4 h1;refine P _ ?_;refine Cu slot y ((o.ok hT h5 h').mono λv Z h'=>?_) h2 (λR=>P4 h3) (λR=>X9 ((IEs.cons e .nil).st h6 R p) (f4 h4))
  obtain⟨a,rfl,l,e',h'⟩:=s9 h';exact⟨a,l,rfl,e',((IEs.cons e .nil).ok (K:=iMe W K) hT h6 h').mono λM Z ⟨A,C⟩=>by
   obtain⟨x,rfl⟩:∃ x,M=[x]:=by cases M with | nil=>cases A | cons x l=>cases l with | nil=>exact⟨x,rfl⟩ | cons _ _=>cases A
   exact h C⟩
def IE.append(o e:IE):IE:=.me (aa "append") "list.append" (λa x H Q=>Own H a λH k=>Req (k.length<=10000) (Q .none (upd H a (.L (k++[x]))))) slot_list_append type_list_append by1 o e
def IE.pop(o e:IE):IE:=.me (aa "pop") "list.pop" (λa x H Q=>D7 (λn=>Own H a λH k=>Req (k.length<=10000/\0<=n/\n<k.length) (∀ x,k[n.toNat]?=some x->Q x (upd H a (.L (k.eraseIdx n.toNat))))) x) PySem.F.slot_list_pop PySem.F.type_list_pop cd9 o e
def Ue(D:List (Str×Int))(K:KT):KT:=λc s q H=>s1 (λx s=>L7 (λk=>DGet D k λv=>K c (v::s) q H) x) s
def IE.get(D:List (Str×Int))(a:IE):IE where
 ck T O S x:=e7 (A8 x) λt=>t.2.2.1.isEmpty&&e7 (E2 t.1) λu=>decide (u.2.1=aa "get")&&((u.2.2.endLine==t.2.2.2.line)&&one t.2.1 λe=>!star e&&(a.ck T O S e&&e7 (s0 u.1) λd=>gl O d&&Fi D (T.lookup d)))
 w q K:=a.w q (Ue D K)
 ok F hc h:=by
  k_extra"M"
  k_extra"ak";intro Q n Y hc3;k_extra"co"
  obtain rfl:n=aa "get":=f4 h1;refine a7 (p7 hc4) λC Ja E=>?_;clear hc4;subst Ja
  refine i5 ((b9 E).imp id b9) λL X A=>?_;clear E
  apply W6 (x:=Q) A;intro Za U c;refine d5 (p9 (b9 c).1) λI P=>?_
  have M:∀ R,mF [C] R=[(false,eval C R)]:=λR=>v7 (m6 L)
  refine cp5 (ck3 F (b9 c).2) I P ((a.ok F X h).mono λv H h=>?_) h2 (λR=>rfl) (λR=>X9 (by rw[M];rfl) (by simp)) M
  refine a7 (tL h) λy Ja h=>?_;subst Ja
  refine⟨y,rfl,?_⟩;cases h with
  | none e k=>rw[e];exact k
  | some i e k=>rw[e];exact k
def Mu(K:KT):KT:=λc s q H=>s1 (λx s=>D7 (λn=>Req (0<=n/\n<=10000) (New H λb=>K c (.ref b::s) q (upd H b (.L (m7 0 1 n.toNat))))) x) s
def qK(q:Bool)(K:KT):KT:=λc s u H=>quiet (K c s u H) q
def IE.lrng(a:IE):IE where
 ck T sc vs x:=s8 x (biC T sc (D5 "list") (Q7 (xQ T sc "range" (a.ck T sc vs))))
 w q K:=qK q (a.w q (Mu K))
 ok {T q c sc vs x K s J Z} hT hc h:=by
  k_extra"T";intro D P;k_extra"f"
  k_extra"E"
  k_extra"5"
  k_extra"b7"
  k_extra"cp"
  k_extra"cG"
  refine d5 (p9 h1) λu y=>d5 (p9 h3) λA C=>?_
  k_extra"a1"
  cases q with
  | false=>exact h.elim
  | true=>
   refine RV (x6 hT h2) u y (yj (x6 hT h4) A ((a.ok hT (b9 hc6).2 h).mono λv Z h=>?_) C hs) (λenv=>rfl)
   obtain⟨n,rfl,⟨Y,h1⟩,k⟩:=P6 h;exact⟨n,rfl,n.toNat,rfl,rfl,by exact(bQ Y).symm,by exact(fun{m} {n}=>fW.mpr) h1,k⟩
def Kl(K:KT):KT:=λc s q H=>s1 (λx s=>m5 (λa=>SSet H a (ps K c s q)) x) s
def IE.sset(a:IE):IE where
 ck T sc vs x:=s8 x (biC T sc (L6 "sorted") (Q7 (xQ T sc "set" (a.ck T sc vs))))
 w q K:=qK q (a.w q (Kl K))
 ok {T q c sc vs x K s J Z} hT hc h:=by
  k_extra"T";intro C P;k_extra"f"
  k_extra"E"
  k_extra"5"
  k_extra"b7"
  k_extra"cp"
  k_extra"cG"
  k_extra"aj"
  refine d5 (p9 h3) λy A=>?_;clear h3
  k_extra"a1"
  cases q with
  | false=>exact h.elim
  | true=>
   refine Vg (nj hT h2) (x6 hT h4) k1 y rfl ((a.ok hT (b9 hc6).2 h).mono λv Z h=>?_) k2 A hs
   obtain⟨b,rfl,l,e,u,k⟩:=s9 h;clear h;exact⟨b,l,rfl,e,u,k⟩
def IE.dic0(b:Bool):IE where
 ck _ _ _ x:=e7 (pO x) λt=>t.1.isEmpty&&t.2.isEmpty
 w _ K:=λc s J Z=>New Z λa=>K c (.ref a::s) J (upd Z a (bif b then .ds [] else .di []))
 ok {T q c sc vs x K s J Z} hT hc h:=by
  refine a7 (i7 hc) λt e u=>?_;clear hc
  k_extra"b6"
  rw[bx.mp (b9 u).1,bx.mp (b9 u).2];cases b with
  | true=>exact Gj (kdS c.g) h
  | false=>exact Gj (kdI c.g) h
def Zn(K:KT):KT:=λc s q Z=>s2 (λx y s=>D7 (λk=>New Z λa=>K c (.ref a::s) q (upd Z a (.di [(k,y)]))) x) s
def IE.dic1(k v:IE):IE where
 ck T sc vs x:=e7 (pO x) λt=>one t.1 λJa=>e7 Ja λH=>one t.2 λI=>k.ck T sc vs H&&v.ck T sc vs I
 w q K:=k.w q (v.w q (Zn K))
 ok {T q c sc vs x K s J Z} hT hc h:=by
  k_extra"T";intro R P;obtain⟨⟨M,O⟩,e,u⟩:=i7 hc;clear hc;k_extra"b6"
  refine a7 (p7 u) λJa E D=>?_;clear u
  refine a7 (i7 D) λH C A=>?_;clear D
  refine a7 (p7 A) λI L F=>?_;clear A
  obtain rfl:M=[some H]:=by rw[<- C];exact E
  obtain rfl:O=[I]:=L;exact P _ (Uy (kdI c.g) ((k.ok hT (b9 F).1 h).mono λx Z h=>(v.ok hT (b9 F).2 h).mono λy Z h=>P6 h))
def IE.pw(n:Nat)(v:Int):IE where
 ck _ _ _ x:=e7 (oO x) λt=>decide (t.2.1=.Pow)&&(isC (D9 t.1) (.int 10)&&(isC (D9 t.2.2) (.int n)&&(decide (n<=12)&&decide (v=10 ^ n))))
 w _ K:=λc s q Z=>K c (.int v::s) q Z
 ok D O h:=by
  apply wH O;intro l o r p hc1;k_extra"aP"
  obtain rfl:=f4 h1;have u:=f4 h4;obtain rfl:=f4 h5;refine Al (U5 h2 (U5 h3 (Ub (bB n) ?_ h)));have:(Builtin.Int.intBits 10:Int)=4:=by k_extra"#"
  rw[this];lia
def bZ9(K:KT):KT:=λc s q Z=>s1 (λo s=>m5 (λa=>LookS Z a λz_=>K c (o::s) q Z) o) s
def JX(K:KT):KT:=λc s q Z=>s3 (λo y w s=>m5 (λa=>L7 (λn=>LookS Z a λl=>K c ((i9 l n).getD w::s) q Z) y) o) s
def IE.dg2(a k z:IE):IE where
 ck T sc vs x:=e7 (A8 x) λt=>t.2.2.1.isEmpty&&e7 (E2 t.1) (Hj (a.ck T sc vs) (k.ck T sc vs) (z.ck T sc vs) t.2.1 t.2.2.2)
 w q K:=a.w q (bZ9 (k.w q (z.w q (JX K))))
 ok {T q c sc vs x K s J Z} hT hc h:=by
  k_extra"T";intro Y P;k_extra"M"
  k_extra"ak";intro ob n Za A;obtain⟨h1,S,L,X,F⟩:=(b9 A).imp id λh=>(b9 h).imp id λh=>(b9 h).imp id b9;clear A
  obtain rfl:n=aa "get":=f4 h1;refine i6 (z9 F) λe y Ja E=>?_;clear F;subst Ja
  obtain⟨I,H,O,M⟩:=(b9 E).imp id λh=>(b9 h).imp id b9;clear E
  refine P _ ?_;have C:∀ R,mF [e,y] R=[(false,eval e R),(false,eval y R)]:=λR=>by rw[v7 (m6 I),v7 (m6 H)];rfl
  refine bh9 (kdS c.g) ((a.ok hT X h).mono λv Z h=>?_) S (λR=>P4 L) (λR=>X9 (by rw[C];rfl) (show 2<20 by decide)) C
  obtain⟨b,rfl,l,e,h⟩:=s9 h;refine⟨b,l,rfl,e,(k.ok hT O h).mono λu Z h=>(z.ok hT M h).mono λw Z h=>?_⟩
  obtain⟨n,rfl,U,D,h⟩:=tL (show L7 _ u from h)
  exact⟨n,U,rfl,D,h⟩
structure IK where
 ks:List Str
 n:Nat
 ck:Tab->Scope->List Str->List (Option Expr)->List Expr->Bool
 w:Bool->KT->KT
 ok:∀ {T q c sc vs keys x K s J Z},TabOK c.g T->ck T sc vs keys x=true->w q K c s J Z->Evk c.g ⟨sc,vs,c.d,q⟩ keys x ks J Z (λl Z=>l.length=n/\K c (l.reverseAux s) J Z) (xC c J)
noncomputable def IK.nil:IK where
 ks:=[]
 n:=0
 ck _ _ _ k x:=k.isEmpty&&x.isEmpty
 w _ K:=K
 ok D O h:=by obtain rfl:=bx.mp (b9 O).1;obtain rfl:=bx.mp (b9 O).2;exact GK ⟨rfl,h⟩
def IK.cons(k:Str)(a:IE)(es:IK):IK where
 ks:=k::es.ks
 n:=es.n+1
 ck T sc vs ks l:=Q4 ks λo ks=>Q4 l λe l=>e7 o (λe=>isC (D9 e) (.str k))&&(a.ck T sc vs e&&es.ck T sc vs ks l)
 w q K:=a.w q (es.w q K)
 ok {T q c sc vs ks x K s J Z} hT hc h:=by
  apply M0 hc;intro o ks hc;apply M0 (P:=λx=>Evk c.g ⟨sc,vs,c.d,q⟩ (o::ks) x (k::es.ks) J Z (λl Z=>l.length=es.n+1/\K c (l.reverseAux s) J Z) (xC c J)) hc
  k_extra"ad"
  refine a7 (i7 h1) λke qa h1=>?_;subst qa
  refine ZD (U5 h1 ⟨rfl,(a.ok hT h2 h).mono λv Z h=>?_⟩)
  exact λA env s pos I=>lY (es.ok hT h3 h A env s pos I) (λps s' p=>by refine p _ ?_;clear p;rintro Vs Z' a b c e hh;refine d5 hh λq1 q2=>?_;exact(λN k_=>k_ Vs Z' a b c e ⟨congrArg (· + 1) q1,q2⟩)) λN N p=>p
def Xh(ks:List Str)(n:Nat)(K:KT):KT:=λc s q Z=>C8 n [] s λl s=>New Z λa=>K c (.ref a::s) q (upd Z a (.ds (ks.zip l)))
def IE.dik(M:IK):IE where
 ck T sc vs x:=e7 (pO x) λt=>t.1.all (·.isSome)&&(decide (t.1.length=t.2.length)&&(!t.1.isEmpty&&(decide (t.1.length<=15)&&(decide (M.ks.Nodup)&&M.ck T sc vs t.1 t.2))))
 w q K:=M.w q (Xh M.ks M.n K)
 ok {T q c sc vs x K s J Z} hT hc h:=by
  k_extra"T";intro P_ P;obtain⟨⟨C,D⟩,e,y⟩:=i7 hc;clear hc;k_extra"b6"
  obtain⟨Za,S,L,X,H,Ja⟩:=(b9 y).imp id λh=>(b9 h).imp id λh=>(b9 h).imp id λh=>(b9 h).imp id b9;clear y
  refine P _ ?_;have Y:C≠[]:=λe=>by rw[e] at L;exact tf L
  exact Wg Za (f4 S) Y (f4 X) (f4 H) (λA R s pos I=>lY (M.ok hT Ja h A R s pos I) (λps s' p=>by refine p _ ?_;clear p;rintro E u a b F e O;refine d5 O λq1 q2=>?_;exact(λN U=>U E u a b F e (D6 (k:=λl s=>New u λa=>K c (.ref a::s) J (upd u a (.ds (M.ks.zip l)))) q1 q2))) λN N p=>p)
section
variable{g:G}{T:Tab}{Q:VP}
theorem Ea(D:TabOK g T)(h:pP (T.lookup x)=true):∃ C c,T.lookup x=some (.cls C c)/\XC g x C c:=by
 cases e:T.lookup x with
 | none=>rw[e] at h;exact(az h).elim
 | some it=>cases it with
  | cls C c=>exact⟨C,c,rfl,D.at' e⟩
  | _=>rw[e] at h;exact(az h).elim
inductive SubR(g:G)(T:Tab)(b:Bool)(x y:Str):Prop
 | own (C:Addr) (bm:List Value) (C':Addr) (bm':List Value) (hx:XC g x C bm) (hy:XC g y C' bm') (e:T.lookup y=some (.cls C' bm')) (hb:(Value.ref C::bm).contains (.ref C')=b):SubR g T b x y
 | ty (C:Addr) (bm:List Value) (hx:XC g x C bm) (e:T.lookup y=some (.ty "ValueError")) (hb:Bi g y (.type "ValueError")) (e1:b=true):SubR g T b x y
theorem nM(D:TabOK g T)(h:O3 b (T.lookup x) (T.lookup y)=true):SubR g T b x y:=by
 cases e:T.lookup x with
 | none=>rw[e] at h;exact tf h
 | some it=>cases it with
  | cls C u=>
   rw[e] at h;cases q:T.lookup y with
   | none=>rw[q] at h;exact tf h
   | some it=>cases it with
    | cls w c=>rw[q] at h;exact .own C u w c (D.at' e) (D.at' q) q (eq_of_beq h)
    | ty id=>rw[q] at h;have h:(decide (id = "ValueError")&&b)=true:=h;obtain rfl:id = "ValueError":=f4 (b9 h).1;exact .ty C u (D.at' e) q (D.at' q) (b9 h).2
    | _=>rw[q] at h;exact tf h
  | _=>rw[e] at h;exact tf h
theorem bS3{E:List Str}{A B:Prop}(h:Hit x ys E A B)(O:oU T y ys E=true):(O3 true (T.lookup x) (T.lookup y)=true/\A)∨(O3 false (T.lookup x) (T.lookup y)=true/\B):=by
 cases h with
 | yes e a=>exact .inl ⟨bc.mp (b9 O).1 x (fG.mp e),a⟩
 | no e b=>exact .inr ⟨bc.mp (b9 O).2 x (fG.mp e),b⟩
theorem Ac{E:List Str}(h:HitB x ys E K)(O:oU T y ys E=true):∃ b,O3 b (T.lookup x) (T.lookup y)=true/\K b:=by
 obtain⟨b,Za,S,k⟩:=h;cases b with
 | true=>exact⟨_,bc.mp (b9 O).1 x (fG.mp (Za rfl)),k⟩
 | false=>exact⟨_,bc.mp (b9 O).2 x (fG.mp (S rfl)),k⟩
end
def Lh(ys E:List Str)(K:KT):KT:=λc s q Z=>s1 (λx s=>m5 (λa=>LookX Z a λx=>HitB x ys E λb=>K c (.bool b::s) q Z) x) s
def IE.isx(a:IE)(y:Str)(ys E:List Str):IE where
 ck T sc vs x:=s8 x (biC T sc (L6 "isinstance") (sY (a.ck T sc vs) (wM (Lz T sc y ys E))))
 w q K:=a.w q (Lh ys E K)
 ok {T q c sc vs x K s J Z} hT hc h:=by
  k_extra"T";intro P_ P;k_extra"f"
  k_extra"g"
  k_extra"aO"
  k_extra"aF"
  refine a7 (i7 h5) λm e' hc3=>?_;clear h5
  refine d4 (B9 e') λp' qa=>?_;subst qa
  obtain⟨hm,Za,A,ht⟩:=(b9 hc3).imp id λh=>(b9 h).imp id b9;clear hc3
  k_extra"b3"
  refine d5 (p9 Za) λM u=>?_
  have O:=a.ok hT h4 h;refine P _ ?_;have D:∀ R,mF [e,.Name m p'] R=(false,eval e R)::mF [.Name m p'] R:=λR=>v7 (m6 k3)
  rcases(fJ _ _).mp A with A | A
  ·refine i6 (Ea hT A) λC' S el I=>Hz (nj hT h2) I.bound h6 M (O.mono λv Z h=>?_) h7 u D
   k_extra"c4"
   refine a7 (Ac h ht) λb k q=>?_
   cases nM hT k with
   | own C L F H U I Ja Y=>rw[el] at Ja;cases Ja;exact bl8 e U I Y q
   | ty C L U Ja=>rw[el] at Ja;cases Ja
  ·refine Fg (nj hT h2) (x6 hT A) h6 M (O.mono λv Z h=>?_) h7 u D
   k_extra"c4"
   refine a7 (Ac h ht) λb k q=>?_;clear h
   cases nM hT k with
   | own C L F H U I Ja Y=>have:=I.bound;rw[(x6 hT A).1] at this;cases this
   | ty C L U Ja Y X=>rw[X] at k q;exact Tn e U q
def Zw(n:Nat)(A B:KT):KT:=λc s q Z=>C8 n [] s λl s=>s1 (λx s=>L7 (λx=>V9 l λu=>Ite (u.any (· == x)) (A c s q Z) (B c s q Z)) x) s
def IT.inl(a:IE)(M:IEs):IT where
 ck T y C x:=e7 (S7 x) (bS8 .In (a.ck T y C) (M.ck T y C))
 w q A B:=a.w q (M.w q (Zw M.n A B))
 ok {T q c y C x A B s H Z} D O h:=by
  k_extra"T";intro I P;k_extra"U"
  k_extra"aM"
  k_extra"co"
  obtain rfl:=f4 h1;refine a7 (i7 hc4) λK e E=>?_;clear hc4
  refine d4 (rH e) λJa qa=>?_;subst qa
  have hl:=f4 (b9 E).1;have u:=M.len (b9 E).2;refine P _ (Tst.drop (wj (((a.ok D h2 h).xmono λx Z h=>⟨Z,Sub.refl _,h⟩).mono λv Z h=>uc (((M.ok D (b9 E).2 h).xmono λx Z h=>⟨Z,Sub.refl _,h⟩).mono λl Z ⟨e,h⟩=>⟨v6 (by rw[e,<- u];exact hl),λa u=>?_⟩)) rfl))
  have h:=D6 (k:=λl s=>s1 (λx s=>L7 (λx=>V9 l λF=>Ite (F.any (· == x)) (A c s H Z) (B c s H Z)) x) s) e h
  refine a7 (tL (show L7 _ v from h)) λx qa h1=>?_;clear h;subst qa
  refine a7 (Bp h1) λF qa h2=>?_;clear h1;subst qa
  exact FW (d6 _ _ _) (vY ⟨Z,Sub.upd u,h2⟩)
section
variable{g:G}{T:Tab}{vs:List Str}{d:Nat}{q:Bool}{J:Lo}{Q:j5}{X:n5}
theorem Inv.at'{i:Nat}{x:Str}(I:Inv g F A env J Z s)(U:F.vars[i]?=some x):∃ w,J[i]?=some w:=by
 have h:=(aF.mp U).1;rw[<- I.loc.len] at h;exact⟨_,ak h⟩
theorem Zy(U:F.vars[i]?=some x)(h:Ev g F e J Z (λv c=>Q .next (J.set i (some v)) c) (λx c=>X x J c))
  (D:∀ env,swapsWith e (some (.Name x M)) pos.line env=pure false):Ex g F (.Assign [.Name x M] e pos) J Z Q X:=(λA env s I=>by
 refine wpAny_Assign_Name (lY (h A env s I) (λv O p=>?_) λN N p=>p.toS) (D env)
 k_extra"7";rintro V c r E u q;refine d4 (E.at' U) λw Za=>?_
 exact mV E U Za r λP y C=>(λN H=>H .next _ c .next y ((u.mono λN h=>h.elim).trans C) q))
theorem RK{v:V}{i:Nat}{P:Lo->Prop}(U:F.vars[i]?=some x)(h:P (J.set i (some v))):Asg g F (.Name x p) v J Z P:=
 ⟨λA R s H y E I C r k=>by
  refine d4 (I.at' U) λw Za=>?_
  exact wpAny_assign_Name (mV I U Za r λu c D=>k u _ c D h),.inl ⟨x,p,rfl⟩⟩
theorem Sx{v:V}{l:List V}{i:Nat}{P:Lo->Prop}(U:F.vars[i]?=some x)(h:AsgL g F Y l (J.set i (some v)) Z P):AsgL g F (.Name x p::Y) (v::l) J Z P:=
 ⟨λA R s u c E I r k=>by
  exact d4 (I.at' U) λw Za=>(bU0 U Za h).run A R s u c E I r k,λR=>by
  show((false,assign (.Name x p) R)::assignEach Y R).length=_;rw[bD,h.len R,bD],λR=>by
  show((false,assign (.Name x p) R)::assignEach Y R).findIdx? _=none;rw[List.findIdx?_cons,h.star R];rfl⟩
theorem O8(h:M4 vs i x=true):∃ n p,x=.Name n p/\vs[i]?=some n:=by
 apply W6 h;intro n p h;exact⟨n,p,rfl,f4 h⟩
theorem uQ:∀ {Y:List Expr} {l:List V} {J:Lo} {P:Lo->Prop},Y0 vs c Y=true->R8 c l J P->AsgL g ⟨sc,vs,d,q⟩ Y l J Z P:=by
 induction c with
 | nil=>
  intro Y l J P O h;obtain rfl:=bx.mp O;cases l with
  | nil=>exact XD h
  | cons _ _=>exact h.elim
 | cons i c u=>
  intro Y l J P O h;cases Y with
  | nil=>exact(az O).elim
  | cons e Y=>
   cases l with
   | nil=>exact h.elim
   | cons v l=>
    refine i6 (O8 (b9 O).1) λn p Ja U=>?_;subst Ja
    exact Sx U (u (b9 O).2 h)
theorem ZX{p' u:Pos}{i:Nat}(js:List Nat)(ok:H0 F scope x js=true)(hq:F.q=true)(Y:F.vars[i]?=some y)
  (h:Itr g F iter J Z (λL K sv=>∃ Ja:List V->List V->Hp->Prop,L.length<=sizeLine/\Ja L [] sv/\
   (∀ v l acc Z',Ja (v::l) acc Z'->K Z'/\H9 g (B7 F scope x) ifs (some v::s6 J js) Z' (λb Z2=>(b=true->Ev g (B7 F scope x) elt (some v::s6 J js) Z2 (λy Z3=>Ja l (acc++[y]) Z3) noX)/\(b=false->Ja l acc Z2)))/\
   ∀ acc Z',Ja [] acc Z'->K Z'/\∀ a,Z' a=none->Q .next (J.set i (some (.ref a))) (upd Z' a (.L acc))) (λx sv=>X x J sv)) :
  Ex g F (.Assign [.Name y p'] (.ListComp elt [⟨.Name x px,iter,ifs,0⟩] scope u) pos) J Z Q X:=(λA R s I=>by
 refine d4 (@WD elt [⟨.Name x px,iter,ifs,0⟩] scope u p' y pos.line R) λb hb=>?_
 cases b with
 | false=>
  refine wpAny_Assign_Name (lY ((Fv (Q:=λv sv=>Q .next (J.set i (some v)) sv) js ok hq h) A R s I) (λv sw p=>?_) λN N p=>p.toS) hb
  refine p _ ?_;clear p;rintro V sv r E S q;exact d4 (E.at' Y) λw hw=>mV E Y hw r λP H c=>(λN k_=>k_ .next _ sv .next H ((S.mono λN h=>h.elim).trans c) q)
 | true=>
  rw[exec_Assign_Name_used _ _ _ _ hb];refine lW (wpAny_standAt (lW ?_));show wpAny _ A (comprehension (.ListComp elt [⟨.Name x px,iter,ifs,0⟩] scope u) scope R (firstIterPos [⟨.Name x px,iter,ifs,0⟩] u) (newList []) false (eval iter R) (some (assign (.Name y p') R)) >>= λN=>pure ()) _ _ s
  refine lW (vG ok hq (λacc Z'=>∀ a,Z' a=none->Q .next (J.set i (some (.ref a))) (upd Z' a (.L acc))) h I (λN N p=>p.toS) λD C acc Z' s' hJ hD I' st' hC M O=>d4 hC λm hm=>?_)
  clear hC;refine d4 (I'.at' Y) λw hw=>wpAny_assign_Name (mV I' Y hw (.ref D) λP H c=>?_)
  have U:=Ns.kept hm λo e=>by refine a7 (c.keep C o e O (I.notOwn M)) λo' e' k=>?_;exact⟨o',e',k.data⟩
  refine⟨m,U,λh' Za=>lX (lX ?_)⟩
  have st3:=(st'.mono λN h=>h.elim).trans c
  exact(λN k_=>k_ .next _ _ .next (H.but (tk:=P.toks) Za.extBut (K5 U Za) O (I.notOwn M) (I.notBase M) (I.notFr M)) (st3.but (tk:=P.toks) Za.extBut M) (hJ D hD)))
theorem xr{Q:List V->(Hp->Prop)->Hp->Prop}{X:XP}(h:Ev g F e J Z (λv w=>wIt Q w v) X)(Ja:∀ env x,foldedSetIterable e env x=pure x):Itr g F e J Z Q X:=
 ⟨λA env s I D=>lY (h A env s I) (λx O p=>by
  refine p _ ?_;clear p;rintro v w r E u y;cases v with
  | ref a=>
   k_extra"bu";obtain⟨L,c,y⟩:=y;refine a7 ((E.sim.objs a _ c).1) λvs M H=>wpAny_pyIter_list M.isList ?_
   exact(λN C=>C _ L _ _ w rfl (Ul D (ax:=a)) ⟨_,aO _ rfl,rfl,rfl⟩ u.freshSize E.sim.fresh (E.keep Step.push E.sim.push) u.push' y)
  | tup l=>
   refine j8 r.ofTup λa vs n qa R H=>?_;subst qa
   exact wpAny_pyIter_tuple ⟨_,R,rfl,_,rfl⟩ (λN C=>C _ _ _ _ w rfl (QW D) ⟨⟨_,aO _ rfl,rfl,rfl⟩,aD _ R,H.mono (Step.push (fr:=inF A) (own:=f5) (Z:=Z)).tups⟩ u.freshSize E.sim.fresh (E.keep Step.push E.sim.push) u.push' y)
  | str x=>
   refine d4 r.ofStr λt qa=>?_;subst qa
   cases q:x.cps.all (· < 128) with
   | true=>exact wpAny_pyIter_ascii q (λN C=>C _ _ _ _ w rfl (VR D) ⟨_,aO _ rfl,rfl,rfl⟩ u.freshSize E.sim.fresh (E.keep Step.push E.sim.push) u.push' y)
   | false=>exact wpAny_pyIter_wide q (λN C=>C _ _ _ _ w rfl (RT D) ⟨_,aO _ rfl,rfl,rfl⟩ u.freshSize E.sim.fresh (E.keep Step.push E.sim.push) u.push' y)
  | _=>exact y.elim) λN N p=>p,Ja⟩
theorem Rng.itr{Q:List V->(Hp->Prop)->Hp->Prop}{X:XP}(h:Rng g F e J Z (λa b c w=>c=1/\s5 a/\s5 b/\Q (m7 a 1 (b-a).toNat) (λN=>True) w) X)(D:∀ env x,foldedSetIterable e env x=pure x):Itr g F e J Z Q X:=by
 refine bL4 (λA env s I=>lY (h A env s I) (λx O p=>?_) λN N p=>p) D
 k_extra"7";rintro r a b c t u v y Za S L C ⟨rfl,M,Y,E⟩;exact(λN H=>H r a b 1 t u v y Za S L C ⟨wB M Y,by rw[zK];exact E⟩)
theorem Hc{U:Pos}{Q:Int->Int->Int->Hp->Prop}{X:XP}(hb:Bi g x (.type "range"))(hk:sc.names.lookup x=some .globalImplicit)
  (h:Ev g ⟨sc,vs,d,q⟩ e J Z (λv H=>Ev g ⟨sc,vs,d,q⟩ Ja J H (λw S=>∃ a b,v=.int a/\w=.int b/\Q a b 1 S) X) X) (hd:(x==("__debug__" : Str))=false) (R:∀ env,mF [e,Ja] env=(false,eval e env)::mF [Ja] env) (L:∀ env,mF [Ja] env=(false,eval Ja env)::mF [] env):Rng g ⟨sc,vs,d,q⟩ (.Call (.Name x U) [e,Ja] [] pos) J Z Q X:=(λA env s I=>by
 k_extra"ay";have M:(backTo pos (mF [e,Ja] env)).any (·.1)=false:=by rw[R,L];rfl
 refine callWith_excType M (s7 M (wpAny_items_cons (lY (h A env s I) (λv O p=>?_) λN N p=>p) (R env)))
 k_extra"7";rintro V H r E D C;refine wpAny_items_cons (lY (C A env O E) (λv' P p=>wpAny_items_nil ?_) λN N p=>p.step D) (L env)
 k_extra"7";rintro V' S r' y K ⟨a,b,u,c,Y⟩;subst u c;refine d4 r.ofInt λN qa=>?_;subst qa;refine d4 r'.ofInt λN qa=>?_;subst qa
 refine call_range_2 (λN Za=>Za _ a b 1 _ _ _ S rfl (aO _ rfl) ?_ ?_ Y)
 ·exact y.keep (Step.grow λb o e=>aD _ e) y.sim.push
 ·exact(D.trans K).trans (Step.grow λb o e=>aD _ e))
theorem Itr.xmono{Q:List V->(Hp->Prop)->Hp->Prop}{X:XP}(h:Itr g F e J Z Q X)(k:∀ v Z,X v Z->y v Z):Itr g F e J Z Q y:=⟨λA R s I C=>
 lY (h.run A R s I C) (λx O p=>lY p (λN N p=>p) λN N p=>by refine p _ ?_;clear p;rintro x u a b c e;exact(λN w=>w x u a b c (k _ _ e))) (λN N p=>by refine p _ ?_;clear p;rintro x u a b c e;exact(λN w=>w x u a b c (k _ _ e))),h.fold⟩
theorem HW{Q:j5}(k:∀ f J Z,Q f J Z->c f J Z){J:Lo}(h:F2 Q Ja l f J Z):F2 c Ja l f J Z:=by
 cases f with
 | next=>exact h
 | cont=>exact h
 | brk=>exact k _ _ _ h
 | ret v=>exact k _ _ _ h
theorem Ex.mono'{s:Stmt}(h:Ex g F s J Z Q X)(k:∀ f J Z,Q f J Z->c f J Z):Ex g F s J Z c X:=(λA env s I=>
 lY (h A env s I) (λN N p=>by refine p _ ?_;clear p;rintro V J' Z' r i y q;exact(λN k_=>k_ V J' Z' r i y (k _ _ _ q))) λN N p=>p)
end
def iIt(M:List V->(Hp->Prop)->KT):KT:=λc s J Z=>s1 (λv s=>wIt (λL P Z=>M L P c s J Z) Z v) s
def II.e(a:IE):II where
 ck T sc vs x:=!uZ x&&a.ck T sc vs x
 w q M:=a.w q (iIt M)
 ok D O h:=xr (a.ok D (b9 O).2 h) λR v=>DP (m6 (b9 O).1)
def iR1(M:List V->(Hp->Prop)->KT):KT:=λc s J Z=>s1 (λv s=>D7 (λb=>Req (s5 b) (M (m7 0 1 (b-0).toNat) (λz_=>True) c s J Z)) v) s
def II.r1(a:IE):II where
 ck T sc vs x:=s8 x (biC T sc (D5 "range") (Q7 (Dz (a.ck T sc vs))))
 w q M:=a.w q (iR1 M)
 ok {T q c sc vs x M s J Z} hT hc h:=by
  k_extra"T";intro y u;k_extra"f"
  k_extra"E"
  refine a7 (p7 hc2) λe qa I=>?_;clear hc2;subst qa
  k_extra"aj"
  refine u _ ((yj (x6 hT h2) k1 ((a.ok hT (b9 I).2 h).mono λv Z h=>?_) k2 λR=>v7 (m6 (b9 I).1)).itr λR x=>rfl)
  obtain⟨b,rfl,Y,k⟩:=P6 (show D7 _ v from h);clear h
  exact⟨b,rfl,rfl,by unfold s5;exact Fe,Y,k⟩
def JF(M:List V->(Hp->Prop)->KT):KT:=λc s J Z=>s2 (λx y s=>A6 (λa b=>Req (s5 a/\s5 b) (M (m7 a 1 (b-a).toNat) (λz_=>True) c s J Z)) x y) s
def II.r2(a b:IE):II where
 ck T sc vs x:=s8 x (biC T sc (D5 "range") λas=>two as λe y=>!star e&&(!star y&&(a.ck T sc vs e&&b.ck T sc vs y)))
 w q M:=a.w q (b.w q (JF M))
 ok {T q c sc vs x M s J Z} hT hc h:=by
  k_extra"T";intro Ja A;k_extra"f"
  k_extra"E"
  refine i6 (z9 hc2) λe y qa I=>?_;clear hc2;subst qa
  obtain⟨L,C,E,P⟩:=(b9 I).imp id λh=>(b9 h).imp id b9;clear I
  k_extra"aj"
  refine A _ ((Hc (x6 hT h2) k1 ((a.ok hT E h).mono λv Z h=>(b.ok hT P h).mono λu Z h=>?_) k2 (λR=>v7 (m6 L)) (λR=>v7 (m6 C))).itr λR x=>rfl)
  obtain⟨i,j,rfl,rfl,⟨D,H⟩,k⟩:=D8 (show A6 _ v u from h);clear h
  exact⟨i,j,rfl,rfl,rfl,D,H,k⟩
def xM:KT:=λc s J Z=>s1 (λv N=>c.Q (.ret v) J Z) s
def ynQ(yes:VP)(no:Hp->Prop):j5:=λf N Z=>match f with
 | .ret v=>yes v Z
 | _=>no Z
structure IC where
 ck:Tab->Scope->List Str->List Expr->Expr->Bool
 w:Bool->KT
 ok:∀ {T q c sc vs ifs x s J Z},TabOK c.g T->ck T sc vs ifs x=true->c.X=E7->w q c s J Z->H9 c.g ⟨sc,vs,c.d,q⟩ ifs J Z λb Z=>(b=true->Ev c.g ⟨sc,vs,c.d,q⟩ x J Z (λv Z=>c.Q (.ret v) J Z) noX)/\(b=false->c.Q .next J Z)
theorem qN{J:Lo}(e:c.X=E7):xC c J=noX:=by unfold xC;rw[e];rfl
def IC.e(a:IE):IC where
 ck T sc vs c x:=c.isEmpty&&a.ck T sc vs x
 w q:=a.w q xM
 ok D O e h:=by
  obtain rfl:=bx.mp (b9 O).1;exact YQ ⟨λz_=>qN e▸a.ok D (b9 O).2 h,λe=>ft e⟩
def IC.t(t:IT)(a:IE):IC where
 ck T sc vs u x:=one u λy=>t.ck T sc vs y&&a.ck T sc vs x
 w q:=t.w q (a.w q xM) l6
 ok {T q c sc vs u x s J Z} D O e h:=by
  refine a7 (p7 O) λy Ja O=>?_;subst Ja
  refine bL1 (Tst.mono (qN (J:=J) e▸t.ok D (b9 O).1 h) λb Z i=>⟨λA=>qN (J:=J) e▸a.ok D (b9 O).2 (i.1 A),i.2⟩)
inductive CLoop(B K:KT)(js:List Nat)(L:List V)(P:Hp->Prop)(c:Cx)(s:List V)(J:Lo)(Z:Hp):Prop
 | mk (Ja:List V->List V->Hp->Prop) (hz:L.length<=10000) (h0:Ja L [] Z) (ht:∀ v l acc Z',Ja (v::l) acc Z'->P Z'/\B ⟨c.g,c.d,ynQ (λy Z=>Ja l (acc++[y]) Z) (λZ=>Ja l acc Z),E7⟩ [] (some v::s6 J js) Z')
   (he:∀ acc Z',Ja [] acc Z'->P Z'/\New Z' λa=>K c (.ref a::s) J (upd Z' a (.L acc))):CLoop B K js L P c s J Z
def BZ(u:List Nat)(T:Tab)(Y:II)(b:IC)(sc:Scope)(vs:List Str)(t:Expr×List Comprehension×Scope):Bool:=
 one t.2.1 λc=>decide (c.is_async=0)&&e7 (s0 c.target) λy=>H0 ⟨sc,vs,0,true⟩ t.2.2 y u&&(Y.ck T sc vs c.iter&&b.ck T (rl t.2.2 sc) (y::w6 t.2.2) c.ifs t.1)
theorem CLoop.use{B:IC}{K:KT}{E:List Nat}{L:List V}{P:Hp->Prop}{c:Cx}{s:List V}{J:Lo}{T:Tab}{q:Bool}{vs:List Str}(D:TabOK c.g T)(O:B.ck T sc vs C x=true)(h:CLoop (B.w q) K E L P c s J Z) :
  ∃ Ja:List V->List V->Hp->Prop,L.length<=sizeLine/\Ja L [] Z/\(∀ v l A u,Ja (v::l) A u->P u/\H9 c.g ⟨sc,vs,c.d,q⟩ C (some v::s6 J E) u (λb S=>(b=true->Ev c.g ⟨sc,vs,c.d,q⟩ x (some v::s6 J E) S (λy w=>Ja l (A++[y]) w) noX)/\(b=false->Ja l A S)))/\
   ∀ A u,Ja [] A u->P u/\∀ a,u a=none->K c (.ref a::s) J (upd u a (.L A)):=by
 cases h with
 | mk Ja U M R I=>exact⟨Ja,v6 U,M,λv l A u H=>⟨(R v l A u H).1,B.ok (c:=⟨c.g,c.d,_,E7⟩) D O rfl (R v l A u H).2⟩,I⟩
def IE.comp(H:List Nat)(Y:II)(b:IC):IE where
 ck T sc vs x:=e7 (pg x) (BZ H T Y b sc vs)
 w q K:=qK q (Y.w q (CLoop (b.w q) K H))
 ok {T q c sc vs x K s J Z} hT hc h:=by
  k_extra"T";intro Za E;apply zL hc;intro e l Ja p u;obtain⟨⟨U,A,R,as⟩,rfl,C⟩:=p7 u;clear u;refine d5 (b9 C) λh1 I=>?_;clear C
  obtain rfl:as=0:=f4 h1;apply W6 (x:=U) I;intro y py D;refine i5 ((b9 D).imp id b9) λS M O=>?_;clear D
  refine E _ ?_;cases q with
  | false=>exact h.elim
  | true=>exact Fv (F:=⟨sc,vs,c.d,true⟩) H S rfl ((Y.ok hT M h).mono λL P Z h=>h.use hT O)
structure IS where
 ck:Tab->Scope->List Str->Stmt->Bool
 w:Bool->KT->KT
 ok:∀ {T q c sc vs x K s J Z},TabOK c.g T->ck T sc vs x=true->w q K c s J Z->Ex c.g ⟨sc,vs,c.d,q⟩ x J Z (nx K c s) c.X
structure ISs where
 ck:Tab->Scope->List Str->List Stmt->Bool
 w:Bool->KT->KT
 ok:∀ {T q c sc vs x K s J Z},TabOK c.g T->ck T sc vs x=true->w q K c s J Z->Exs c.g ⟨sc,vs,c.d,q⟩ x J Z (nx K c s) c.X
def bP6:KT:=λc s J Z=>s1 (λv N=>c.Q (.ret v) J Z) s
def IS.ret(e:IE):IS where
 ck T sc vs x:=e7 (tM x) λt=>e7 t (e.ck T sc vs)
 w q _:=e.w q bP6
 ok D O h:=by
  apply Ut O;intro t p c;refine a7 (i7 c) λy Ja u=>?_;clear c;subst Ja
  exact br4 (e.ok D u h)
def IS.iff(t:IT)(a b:ISs):IS where
 ck T sc vs x:=e7 (rK x) λu=>t.ck T sc vs u.1&&(a.ck T sc vs u.2.1&&b.ck T sc vs u.2.2)
 w q K:=t.w q (a.w q K) (b.w q K)
 ok D O h:=by
  apply Ip O;intro u v w p hc1;k_extra"g"
  exact Wl ((t.ok D h1 h).mono λz_ Z i=>⟨λe=>a.ok D h2 (i.1 e),λe=>b.ok D h3 (i.2 e)⟩)
def yu(i:Nat)(K:KT):KT:=λc s J Z=>s1 (λv s=>K c s (J.set i (some v)) Z) s
def IS.asg(i:Nat)(e:IE):IS where
 ck T sc vs x:=e7 (I6 x) λt=>one t.1 λn=>M4 vs i n&&(!odd t.2.1&&e.ck T sc vs t.2.1)
 w q K:=e.w q (yu i K)
 ok {T q c sc vs x K s J Z} hT hc h:=by
  k_extra"T";intro A y;k_extra"A"
  refine i5 ((b9 hc2).imp id b9) λh1 S L=>?_;clear hc2
  refine i6 (O8 h1) λn p qa hx=>?_;clear h1;subst qa
  obtain rfl:t=[.Name n p]:=e2;exact y _ (Zy (F:=⟨sc,vs,c.d,q⟩) hx (e.ok hT L h) λR=>Dq (m6 S))
def IS.asgc(i:Nat)(M:List Nat)(Ja:II)(b:IC):IS where
 ck T sc vs x:=e7 (I6 x) λt=>one t.1 λn=>M4 vs i n&&e7 (pg t.2.1) (BZ M T Ja b sc vs)
 w q K:=qK q (Ja.w q (CLoop (b.w q) (yu i K) M))
 ok {T q c sc vs x K s J Z} hT hc h:=by
  k_extra"T";intro P_ H;k_extra"A"
  refine d5 (b9 hc2) λh1 U=>?_;clear hc2
  refine i6 (O8 h1) λn p qa hx=>?_;subst qa
  obtain rfl:t=[.Name n p]:=e2;apply zL (x:=u) U;intro e l O p I;obtain⟨⟨tg,A,ifs,as⟩,R,C⟩:=p7 I;clear I;obtain rfl:l=[_]:=R;refine d5 (b9 C) λh1 Y=>?_;clear C
  obtain rfl:as=0:=f4 h1;apply W6 (x:=tg) Y;intro y py D;refine i5 ((b9 D).imp id b9) λS Za E=>?_;clear D
  refine H _ ?_;cases q with
  | false=>exact h.elim
  | true=>exact ZX (F:=⟨sc,vs,c.d,true⟩) M S rfl hx ((Ja.ok hT Za h).mono λL P Z h=>h.use hT E)
def Jv(K:KT):KT:=λc s J Z=>s3 (λv a k s=>m5 (λa=>vV Z a v (K c s J) k) a) s
def IS.seti(o i e:IE):IS where
 ck T sc vs x:=e7 (I6 x) λt=>one t.1 λn=>e.ck T sc vs t.2.1&&e7 (K9 n) λu=>o.ck T sc vs u.1&&i.ck T sc vs u.2
 w q K:=e.w q (o.w q (i.w q (Jv K)))
 ok D hc h:=by
  k_extra"A"
  refine d5 (b9 hc2) λZa I=>?_;clear hc2
  obtain rfl:t=[n]:=e2;apply V3 (x:=n) I;intro a b p c;refine Ox ((e.ok D Za h).mono λv Z h=>(o.ok D (b9 c).1 h).mono λa Z h=>(i.ok D (b9 c).2 h).mono λk Z h=>?_) λR=>cd7
  refine a7 (s9 (show m5 _ a from h)) λb Ja h=>?_;subst Ja
  exact Xn h
def IS.expr(e:IE):IS where
 ck T sc vs x:=e7 (rF x) λy=>!odd y&&e.ck T sc vs y
 w q K:=e.w q (Fb K)
 ok D O h:=by
  apply Vy O;intro y p c;exact bD5 (e.ok D (b9 c).2 h) λR=>Dq (m6 (b9 c).1)
def IS.brk:IS where
 ck _ _ _ x:=yU x
 w _ _:=Do
 ok D O h:=by refine d4 (bB8 O) λp Ja=>?_;subst Ja;exact Tr h
noncomputable def ISs.nil:ISs where
 ck _ _ _ l:=l.isEmpty
 w _ K:=K
 ok hT hc h:=by obtain rfl:=bx.mp hc;exact Ny h
def ISs.cons(a:IS)(as:ISs):ISs where
 ck T sc vs l:=Q4 l λx l=>a.ck T sc vs x&&as.ck T sc vs l
 w q K:=a.w q (as.w q K)
 ok D hc h:=by
  apply M0 hc;intro x l hc;refine bZ3 ((a.ok D (b9 hc).1 h).mono' λf J Z h=>?_)
  cases f with
  | next=>exact as.ok D (b9 hc).2 h
  | brk=>exact h
  | cont=>exact h
  | ret v=>exact h
def bt1(K:KT):KT:=λc s J Z=>Stop (K c s J Z)
def ISs.stop(a:ISs):ISs where
 ck:=a.ck
 w q K:=bt1 (a.w q K)
 ok D O h:=by obtain⟨h⟩:=(show Stop _ from h);exact a.ok D O h
noncomputable def ISs.any:ISs where
 ck _ _ _ _:=true
 w _ _:=λN N N N=>False
 ok _ _ h:=h.elim
inductive Drop(K:KT)(c:Cx)(s:List V)(J:Lo)(Z:Hp):Prop
 | mk {Z':Hp} (h:Sub Z' Z) (k:K c s J Z'):Drop K c s J Z
def ISs.drop(a:ISs):ISs where
 ck:=a.ck
 w q K:=Drop (a.w q K)
 ok D O h:=by cases h with | mk k h=>exact(a.ok D O h).sub k
structure TG where
 ck:List Str->Expr->Bool
 w:V->Lo->(Lo->Prop)->Prop
 ok:∀ {g sc vs d q t v J Z P},ck vs t=true->w v J P->Asg g ⟨sc,vs,d,q⟩ t v J Z P
def TG.v(i:Nat):TG where
 ck vs t:=M4 vs i t
 w v J P:=P (J.set i (some v))
 ok {g sc vs d q t v J Z P} O h:=by
  refine i6 (O8 O) λn p Ja U=>?_;clear O;subst Ja
  exact RK (F:=⟨sc,vs,d,q⟩) U h
def TG.t(c:List Nat):TG where
 ck vs t:=e7 (F3 t) (Y0 vs c)
 w v J P:=uX (λl=>R8 c l J P) v
 ok O h:=by
  refine a7 (i7 O) λl e O=>k9 (X3 e) λk p Ja=>?_
  subst Ja;refine a7 (zf h) λu Ja h=>?_;subst Ja
  exact uf (uQ O h)
inductive Loop(W:TG)(B K:KT)(L:List V)(P:Hp->Prop)(c:Cx)(s:List V)(J:Lo)(Z:Hp):Prop
 | mk (Ja:List V->Lo->Hp->Prop) (h0:Ja L J Z) (ht:∀ v l J' Z',Ja (v::l) J' Z'->P Z'/\W.w v J' λJ''=>B (c.wQ (F2 (nx K c s) Ja l)) s J'' Z') (he:∀ J' Z',Ja [] J' Z'->P Z'/\K c s J' Z'):Loop W B K L P c s J Z
inductive LoopR(W:TG)(B K:KT)(c:Cx)(s:List V)(J:Lo):Addr->Hp->Prop
 | held {Z:Hp} {a:Addr} (l:List V) (h:Z a=some (.L l)) (k:Loop W B K l (λZ=>Z a=some (.L l)) c s J Z):LoopR W B K c s J a Z
 | tmp {Z:Hp} {a:Addr} {l:List V} (hn:Z a=none) (k:Loop W B K l (λz_=>True) c s J Z):LoopR W B K c s J a (upd Z a (.L l))
inductive LoopX(W:TG)(B K:KT)(c:Cx)(s:List V)(J:Lo):List V->(Hp->Prop)->Hp->Prop
 | stay {L:List V} {P:Hp->Prop} {Z:Hp} (h:Loop W B K L P c s J Z):LoopX W B K c s J L P Z
 | tmp {L:List V} {Z:Hp} {a:Addr} (hn:Z a=none) (h:Loop W B K L (λz_=>True) c s J Z):LoopX W B K c s J L (λZ=>Z a=some (.L L)) (upd Z a (.L L))
theorem Q1{s:List V}{J:Lo}(h:nx l6 c s f J Z):c.Q f J Z:=by cases f<;>exact h
theorem Dv{W:TG}{b:ISs}{K:KT}{T:Tab}{q:Bool}{c:Cx}{vs:List Str}{t iter:Expr}{E:List Stmt}{s:List V}{J:Lo}(hT:TabOK c.g T)(O:q=true)(R:W.ck vs t=true)(hb:b.ck T sc vs E=true)
  (h:Itr c.g ⟨sc,vs,c.d,q⟩ iter J Z (LoopX W (b.w q l6) K c s J) (xC c J)):Ex c.g ⟨sc,vs,c.d,q⟩ (.For t iter E [] pos) J Z (nx K c s) c.X:=by
 have go:∀ {Ja:List V->Lo->Hp->Prop} {l:List V} {v:V} {y:Lo} {u:Hp},(W.w v y λC=>b.w q l6 (c.wQ (F2 (nx K c s) Ja l)) s C u)->Asg c.g ⟨sc,vs,c.d,q⟩ t v y u λC=>Exs c.g ⟨sc,vs,c.d,q⟩ E C u (F2 (nx K c s) Ja l) c.X:=
  fun{Ja l v y u} w=>(W.ok R w).mono λC h=>(b.ok (c:=c.wQ (F2 (nx K c s) Ja l)) hT hb h).mono λf J Z h=>Q1 h
 refine Ex.xdrop (Tt O ((h.xmono λx Z h=>⟨Z,Sub.refl _,h⟩).mono λL P sv p=>?_))
 cases p with
 | stay p=>
  obtain⟨Ja,h0,R,Za⟩:=p;refine⟨Ja,h0,λv l y u I=>⟨(R v l y u I).1,(go (R v l y u I).2).mono λC ex=>?_⟩,λy u I=>⟨(Za y u I).1,u,Sub.refl _,(Za y u I).2⟩⟩
  exact(ex.mono λf J Z h=>HW (λf J Z h=>⟨Z,Sub.refl _,h⟩) h).xmono λf J Z h=>⟨Z,Sub.refl _,h⟩
 | @tmp D b Y p=>
  obtain⟨Ja,h0,R,Za⟩:=p;refine⟨λl y D=>∃ u,D=upd u b (.L L)/\u b=none/\Ja l y u,⟨D,rfl,Y,h0⟩,?_,?_⟩
  ·rintro v l y _ H;refine f6 H λu S Y I=>?_;clear H;subst S
   refine⟨d6 _ _ _,((go (R v l y u I).2).frame Y).mono λC ex=>?_⟩
   refine((ex.frame Y).mono ?_).xmono ?_
   ·k_extra"cq"
    cases f with
    | next=>exact⟨M,rfl,A,O⟩
    | cont=>exact⟨M,rfl,A,O⟩
    | brk=>exact⟨M,Sub.upd A,O⟩
    | ret v=>exact⟨M,Sub.upd A,O⟩
   ·k_extra"cq"
    exact⟨M,Sub.upd A,O⟩
  ·rintro y _ H;refine f6 H λu S Y I=>?_;clear H;subst S
   exact⟨d6 _ _ _,u,Sub.upd Y,(Za _ _ I).2⟩
def wLt(W:TG)(B K:KT)(c:Cx)(s:List V)(J:Lo)(Z:Hp):V->Prop
 | .tup L=>Loop W B K L (λz_=>True) c s J Z
 | .str x=>Loop W B K (H3 x) (λz_=>True) c s J Z
 | .ref a=>LoopR W B K c s J a Z
 | _=>False
theorem bq6{W:TG}{B K:KT}{s:List V}{J:Lo}(h:wLt W B K c s J Z v):wIt (LoopX W B K c s J) Z v:=by
 cases v with
 | tup L=>exact .stay h
 | str x=>exact .stay h
 | ref a=>cases h with
  | held l e k=>exact⟨l,e,.stay k⟩
  | tmp u k=>exact⟨_,d6 _ _ _,.tmp u k⟩
 | _=>exact h.elim
def zO(t:TG)(b:ISs)(k:Tab->Scope->List Str->Expr->Bool)(T:Tab)(sc:Scope)(vs:List Str)(x:Stmt):Bool:=e7 (qu x) λu=>u.2.2.2.isEmpty&&(t.ck vs u.1&&(k T sc vs u.2.1&&b.ck T sc vs u.2.2.1))
def iLp(t:TG)(B K:KT):KT:=λc s J Z=>s1 (λv s=>wLt t B K c s J Z v) s
def IS.loop(t:TG)(a:IE)(b:ISs):IS where
 ck:=zO t b (II.e a).ck
 w q K:=qK q (a.w q (iLp t (b.w q l6) K))
 ok {T q c sc vs x K s J Z} hT hc h:=by
  k_extra"T";intro y P;apply tC hc;intro u v bd w p hc1;k_extra"x"
  obtain rfl:w=[]:=bx.mp h1;refine P _ ?_;cases q with
  | false=>exact h.elim
  | true=>exact Dv hT rfl h2 h4 (xr ((a.ok hT (b9 h3).2 h).mono λv Z h=>bq6 h) λR v=>DP (m6 (b9 h3).1))
def IS.loopi(t:TG)(Y:II)(b:ISs):IS where
 ck:=zO t b Y.ck
 w q K:=qK q (Y.w q (Loop t (b.w q l6) K))
 ok {T q c sc vs x K s J Z} hT hc h:=by
  k_extra"T";intro A y;apply tC hc;intro u v bd w p hc1;k_extra"x"
  obtain rfl:w=[]:=bx.mp h1;refine y _ ?_;cases q with
  | false=>exact h.elim
  | true=>exact Dv hT rfl h2 h4 ((Y.ok hT h3 h).mono λL P Z h=>.stay h)
inductive LoopZ(is:List Nat)(B K:KT)(a b:Addr)(c:Cx)(s:List V)(J:Lo)(Z:Hp):Prop
 | mk (l m:List V) (ha:Z a=some (.L l)) (hb:Z b=some (.L m)) (Ja:Nat->Lo->Hp->Prop) (h0:Ja 0 J Z) (ht:∀ i x y J' Z',l[i]?=some x->m[i]?=some y->Ja i J' Z'->ZipK a b l m J' Z'/\R8 is [x,y] J' λJ''=>B (c.wQ (T8 (nx K c s) Ja (i+1))) s J'' Z')
   (he:∀ J' Z',Ja (min l.length m.length) J' Z'->ZipK a b l m J' Z'/\K c s J' Z'):LoopZ is B K a b c s J Z
def iLz(u:List Nat)(B K:KT):KT:=λc s J Z=>s2 (λx y s=>m5 (λa=>m5 (λb=>LoopZ u B K a b c s J Z) y) x) s
def IS.loopz(R:List Nat)(x y:IE)(b:ISs):IS where
 ck T sc vs z:=e7 (qu z) λt=>t.2.2.2.isEmpty&&(b.ck T sc vs t.2.2.1&&(e7 (F3 t.1) (Y0 vs R)&&s8 t.2.1 λn H=>gl sc n&&(D5 "zip" (T.lookup n)&&two H λu v=>(IEs.cons x (.cons y .nil)).ck T sc vs [u,v])))
 w q K:=qK q (x.w q (y.w q (iLz R (b.w q l6) K)))
 ok {T q c sc vs z K s J Z} hT hc h:=by
  apply tC hc;intro t u bd w p C;obtain⟨h1,I,h3,M⟩:=(b9 C).imp id λh=>(b9 h).imp id b9;clear C
  cases q with
  | false=>exact h.elim
  | true=>
   obtain rfl:w=[]:=bx.mp h1;apply rO (x:=t) h3;intro l k p' A;apply bz9 (x:=u) M;intro n H np cp D;refine i5 ((b9 D).imp id b9) λY Za k3=>?_;clear D
   apply Uj (l:=H) k3;intro ea eb k4;refine Qv (F:=⟨sc,vs,c.d,true⟩) rfl (p9 Y).1 (x6 hT Za).1 (x6 hT Za).2 (p9 Y).2 (((IEs.cons x (.cons y .nil)).ok (K:=iLz R (b.w true l6) K) hT k4 h).mono λl Z ⟨O,h⟩=>?_)
   obtain⟨v,w,rfl⟩:∃ v w,l=[v,w]:=by
    cases l with
    | nil=>cases O
    | cons v l=>cases l with
     | nil=>cases O
     | cons w l=>cases l with
      | nil=>exact⟨v,w,rfl⟩
      | cons _ _=>cases O
   refine a7 (s9 (show m5 _ v from h)) λa S h=>?_;subst S
   refine a7 (s9 h) λa' S h=>?_;subst S
   obtain⟨l,m,ha,L,Ja,h0,ht,E⟩:=h;exact(λz_ k_=>k_ a a' l m rfl ha L Ja h0 (λi x y P U e1 e2 hj=>(ht i x y P U e1 e2 hj).imp id λw=>(uf (uQ A w)).mono λJ h=>(b.ok (c:=c.wQ (T8 (nx K c s) Ja (i+1))) hT I h).mono λf J Z h=>Q1 h) E)
def whQ(Q:j5)(Ja:Nat->Lo->Hp->Prop)(n:Nat):j5:=λf J Z=>match f with
 | .next=>∃ m,m<n/\Ja m J Z
 | .cont=>∃ m,m<n/\Ja m J Z
 | .brk=>Q .next J Z
 | .ret v=>Q (.ret v) J Z
inductive Whl(B K:KT)(c:Cx)(s:List V)(J:Lo)(Z:Hp):Prop
 | mk (Ja:Nat->Lo->Hp->Prop) (n:Nat) (h0:Ja n J Z) (ht:∀ n J' Z',Ja n J' Z'->B (c.wQ (whQ (nx K c s) Ja n)) s J' Z'):Whl B K c s J Z
def IS.whil(t:IT)(b:ISs):IS where
 ck T sc vs x:=e7 (sW x) λu=>u.2.2.isEmpty&&(t.ck T sc vs u.1&&b.ck T sc vs u.2.1)
 w q K:=Whl (t.w q (b.w q l6) Do) K
 ok {T q c sc vs z K s J Z} hT hc h:=by
  apply abP (x:=z);intro E P;apply Lk hc;intro u v w p hc1;k_extra"g"
  obtain rfl:w=[]:=bx.mp h1;obtain⟨Ja,n,Y,y⟩:=h;refine P _ ?_;exact VK Ja Y λn A C D=>(t.ok (c:=c.wQ (whQ (nx K c s) Ja n)) hT h2 (y n A C D)).mono λz_ Z i=>⟨λe=>(b.ok (c:=c.wQ (whQ (nx K c s) Ja n)) (K:=l6) hT h3 (i.1 e)).mono λf J Z h=>by cases f<;>exact h,i.2⟩
def IS.unp(L:List Nat)(i:Nat):IS where
 ck T sc vs x:=e7 (I6 x) λt=>one t.1 λn=>e7 (F3 n) λl=>Y0 vs L l&&e7 (s0 t.2.1) λm=>decide (vs[i]?=some m) && !(m==("__debug__" : Str))
 w q K:=qK q λc s J Z=>vAt J i λv=>uX (λl=>R8 L l J λJ=>K c s J Z) v
 ok {T q c sc vs z K s J Z} hT hc h:=by
  apply abP (x:=z);intro U P;apply N8 hc;intro t e p u;refine a7 (p7 u) λn M D=>?_;clear u
  obtain rfl:t=[n]:=M;refine a7 (i7 D) λl C A=>?_;clear D
  refine k9 (X3 C) λk p' Ja=>?_;subst Ja
  refine d5 (b9 A) λZa H=>?_;clear A
  refine a7 (i7 H) λm O E=>?_;clear H
  refine d4 (B9 O) λp2 y=>?_
  obtain rfl:e=_:=y;refine P _ ?_;cases q with
  | false=>exact h.elim
  | true=>
   refine a7 (Bl h) λv S I=>?_;clear h
   refine a7 (zf I) λY Ja I=>?_;subst Ja
   exact Wi (F:=⟨sc,vs,c.d,true⟩) rfl (Ey (f4 (b9 E).1) S (uf (uQ Za I)) (m6 (b9 E).2)) (λR=>rfl) (λR=>rfl)
section
variable{g:G}{T:Tab}{vs:List Str}{d:Nat}{q:Bool}{J:Lo}{Q:j5}{X:n5}
theorem bl9(hi:vs[i]?=some x)(hj:vs[j]?=some y)(hx:sc.names.lookup x=some .local)(hy:sc.names.lookup y=some .local)(hl:(py.line==px.line)=true)(hxy:([x,y].eraseDups.length != 2)=false)
  (hs:([a,b].any qH)=false) (hf:[a,b].all (mG 8)=false) (hc:[a,b].all (mH 8)=false)
  (h:Ev g ⟨sc,vs,d,true⟩ (.Tuple [a,b] k' p) J Z (λv C=>∃ u w,v=.tup [u,w]/\Q .next ((J.set j (some w)).set i (some u)) C) (λx C=>X x J C)) :
  Ex g ⟨sc,vs,d,true⟩ (.Assign [.Tuple [.Name x px,.Name y py] k tpos] (.Tuple [a,b] k' p) pos) J Z Q X:=(λA R s I=>by
 have D:∀ z,R.kindOf z=sc.names.lookup z:=λz=>by
  show R.scope.names.lookup z=_;rw[I.scope]
 have hbk:R.blockKind=.function:=by
  unfold Env.blockKind;rw[I.fn];rfl
 refine PyProof.Rows.Assign_Tuple_swapped (names:=[x,y]) (lY (h A R s I) (λv O p=>?_) λN N p=>p.toS) rfl (Mr hbk (by rw[D];exact hx) (by rw[D];exact hy) hl hxy hs hf hc)
 k_extra"7";rintro V C r Za P hh;refine i6 hh λu w Ja hQ=>?_;clear hh;rw[Ja] at r
 refine j8 r.ofTup λt us n Ja ht rl=>?_;subst Ja
 have e:us.size=2:=by rw[<- aJ,rl.length];rfl
 have hun:∀ (Q':List Value->Shared->Prop) (E:Value->Shared->Prop),(∀ Y,Heap.ExtBut O.heap.objs.size O.heap Y->Q' us.toList {O with heap:=Y})->wpAny (model g.prog g.w) A (unpackItems (.ref t) 2 none) Q' E O:=λQ' E hq=>by
  have:=unpackItems_tuple (E:=E) (prog:=g.prog) (w:=g.w) (Za.quiet rfl) (t:=t) (items:=us) ⟨_,ht,rfl,_,rfl⟩ hq;rw[e] at this;exact this
 refine hun _ _ λY hx'=>?_
 have hk:∀ b o,O.heap.get? b=some o->Y.get? b=some o:=λb o eb=>hx' b o (bR (bC eb)) eb
 have M:∀ c,Step (inF A) c C C O {O with heap:=Y}:=λc=>Step.grow (tk:=O.toks) hk
 have K:=Za.keep (M f5) (Za.sim.grow hk);have rl':=rl.mono (M f5).tups;generalize us.toList=ul at rl' ⊢;refine g8 rl'.two λv1 v2 Ja r1 r2=>?_;subst Ja
 refine d4 (K.at' hj) λw1 e1=>?_
 show wpAny _ A (do holding _ (bindName R y v2);assignInOrder [bindName R x] [v1]) _ _ _
 refine lW (my (jZ (mV K hj e1 r2 λs₃ L H=>d4 (L.at' hi) λw2 e2=>?_)))
 show wpAny _ A (do holding _ (bindName R x v1);assignInOrder [] []) _ _ _
 refine lW (my (jZ (mV L hi e2 (r1.mono H.tups) λs4 U S=>?_)))
 exact lX (λN k_=>k_ .next _ C .next U ((((P.mono λN h=>h.elim).trans (M _)).trans H).trans S) hQ))
theorem TP{Q:VP}{X:XP}(M:star a=false)(Y:star b=false)(h:Ev g F a J Z (λu Z=>Ev g F b J Z (λw Z=>Q (.tup [u,w]) Z) X) X):Ev g F (.Tuple [a,b] k p) J Z Q X:=
 xE (V2 (h.mono λu Z h=>V2 (h.mono λw Z h=>qm ⟨(by decide:2<=sizeLine),h⟩) (λN N=>rfl) λR=>v7 Y) (λR p=>by rw[v7 Y];rfl) λR=>v7 M)
theorem YS{J:Lo}{vs:List Str}(h:J.length=vs.length):(J.map λz_=>none)=aC vs.length (none:Option V):=by rw[<- h];exact List.map_const' ..
theorem Zf(h:J.length=F.vars.length->Hnd g F w x J Z Q X):Hnd g F w x J Z Q X:=(λA R s u c e I D f=>(h I.loc.len) A R s u c e I D f)
end
def bK2(i j:Nat)(K:KT):KT:=λc s J Z=>s2 (λu w s=>K c s ((J.set j (some w)).set i (some u)) Z) s
def IS.swap(i j:Nat)(a b:IE):IS where
 ck T sc vs x:=e7 (I6 x) λt=>one t.1 λn=>e7 (F3 n) λl=>two l λm n=>M4 vs i m&&(M4 vs j n&&((n.pos.line==m.pos.line)&&(decide (sc.names.lookup ((s0 m).getD default)=some .local)&&(decide (sc.names.lookup ((s0 n).getD default)=some .local)&&(!([(s0 m).getD default,(s0 n).getD default].eraseDups.length != 2) &&
   e7 (F3 t.2.1) λl=>two l λu w=>!([u,w].any qH)&&(!([u,w].all (mG 8))&&(!([u,w].all (mH 8))&&(!star u&&(!star w&&(a.ck T sc vs u&&b.ck T sc vs w))))))))))
 w q K:=qK q (a.w q (b.w q (bK2 i j K)))
 ok {T q c sc vs z K s J Z} hT hc h:=by
  apply abP (x:=z);intro P_ P;k_extra"A"
  obtain rfl:t=[n]:=e2;apply rO (x:=n) hc2;intro l k tp A;refine i6 (z9 A) λm n Ja C=>?_;clear A;subst Ja
  obtain⟨Za,S,L,Y,h5,h6,E⟩:=xB C;clear C;refine i6 (O8 Za) λmx mp Ja hm=>?_;clear Za;subst Ja
  refine i6 (O8 S) λnx np Ja hn=>?_;clear S;subst Ja
  refine a7 (i7 E) λl y D=>?_;clear E
  refine k9 (X3 y) λk' tp' U=>?_
  obtain rfl:u=_:=U;refine i6 (z9 D) λea eb Ja H=>?_;clear D;subst Ja
  obtain⟨h7,h8,h9,I,M,O,R⟩:=xB H;clear H;refine P _ ?_;cases q with
  | false=>exact h.elim
  | true=>
   exact bl9 hm hn (f4 Y) (f4 h5) L (m6 h6) (m6 h7) (m6 h8) (m6 h9) (TP (m6 I) (m6 M) ((a.ok hT O h).mono λu Z h=>(b.ok hT R h).mono λw Z h=>⟨u,w,rfl,h⟩))
def NB(x:Str):KT:=λc N J Z=>c.X x J Z
def IS.rais(y:Str)(M:IEs):IS where
 ck T sc vs x:=e7 (sp x).rais λu=>u.2.isNone&&e7 u.1 λc=>s8 c λn H=>decide (n=y)&&(gl sc n&&(pP (T.lookup n)&&(decide (H.length<20)&&M.ck T sc vs H)))
 w q _:=qK q (M.w q (NB y))
 ok {T q c sc vs z K s J Z} hT hc h:=by
  apply abP (x:=z);intro P_ P;apply Yz hc;intro a b p hc1;refine d5 (b9 hc1) λh0 hc2=>?_;clear hc1
  obtain rfl:b=none:=cV.mp h0;refine a7 (i7 hc2) λJa E A=>?_;clear hc2
  obtain rfl:a=some Ja:=E;refine u9 (u0 A) λn H np p' O D=>?_;clear A
  obtain rfl:Ja=_:=O;obtain⟨Za,S,L,R,I⟩:=(b9 D).imp id λh=>(b9 h).imp id λh=>(b9 h).imp id b9;clear D
  obtain rfl:n=y:=f4 Za;refine i6 (Ea hT L) λC bm N U=>d5 (p9 S) λY k2=>?_
  refine P _ ?_;have hl:=f4 R;have hn:=M.len I;cases q with
  | false=>exact h.elim
  | true=>exact Mi U Y rfl k2 ((M.ok hT I h).mono λl Z h=>⟨v6 (by have:=h.1;lia),h.2⟩)
structure IHs where
 ck:Tab->Scope->List Str->List ExceptHandler->Bool
 w:KT->Str->KT
 ok:∀ {T q c sc vs l x K s J Z},TabOK c.g T->J.length=vs.length->ck T sc vs l=true->w K x c s J Z->Hnd c.g ⟨sc,vs,c.d,q⟩ l x J Z (nx K c s) c.X
noncomputable def IHs.nil:IHs where
 ck _ _ _ l:=l.isEmpty
 w _ x:=λc s J Z=>c.X x J Z
 ok D _ O h:=by obtain rfl:=bx.mp O;exact Tj h
def cg4(T:Tab)(sc:Scope)(vs:List Str)(y:Str)(ys E:List Str)(n:Option Nat)(b:ISs)(h:ExceptHandler):Bool:=
 e7 (Y6 h).1 (λe=>e7 (s0 e) λm=>decide (m=y)&&(gl sc m&&(pP (T.lookup m)&&oU T m ys E)))&&(hNm sc vs n (Y6 h).2.1&&(!(Y6 h).2.2.isEmpty&&b.ck T sc vs (Y6 h).2.2))
def hSu(n:Option Nat)(B K:KT)(x:Str):KT:=λc s J Z=>match n with
 | none=>B ⟨c.g,c.d,nx K c s,E7⟩ s J Z
 | some i=>New Z λa=>B ⟨c.g,c.d,λf N u=>nx K c s f (J.map λN=>none) u,E7⟩ s (J.set i (some (.ref a))) (upd Z a (.ex x))
def IHs.cons(y:Str)(ys ns:List Str)(n:Option Nat)(b:ISs)(r:IHs):IHs where
 ck T sc vs l:=Q4 l λh l=>cg4 T sc vs y ys ns n b h&&r.ck T sc vs l
 w K x:=λc s J Z=>Hit x ys ns (hSu n (b.w false l6) K x c s J Z) (r.w K x c s J Z)
 ok {T q c sc vs l x K s J Z} hT hl hc h:=by
  apply abP (x:=l);intro P_ P;apply M0 hc;intro hd l hc;obtain⟨t,nm,bd,p⟩:=hd;refine d5 (b9 hc) λu h5=>?_;clear hc
  obtain⟨D,S,h3,h4⟩:=(b9 u).imp id λh=>(b9 h).imp id b9;clear u
  refine a7 (i7 D) λe E H=>?_;clear D
  obtain rfl:t=some e:=E;refine a7 (i7 H) λm e2 A=>?_;clear H
  refine d4 (B9 e2) λnp qa=>?_;subst qa
  obtain⟨h6,h7,h8,h9⟩:=(b9 A).imp id λh=>(b9 h).imp id b9;clear A
  refine d5 (p9 h7) λM R=>?_;clear h7
  refine P _ ?_;cases bd with
  | nil=>exact(az h3).elim
  | cons Za bd=>
   rcases bS3 h h9 with ⟨k,w⟩ | ⟨k,w⟩
   ·cases nM hT k with
    | own C Ja C' L U I O Y=>
     cases n with
     | none=>cases nm with
      | none=>exact Sh (F:=⟨sc,vs,c.d,q⟩) U I M R Y ((b.ok (c:=⟨c.g,c.d,nx K c s,E7⟩) hT h4 w).mono λf J Z h=>Q1 h)
      | some _=>exact(az S).elim
     | some i=>cases nm with
      | none=>exact(az S).elim
      | some z=>
       have hi:=f4 (b9 S).1;refine XH (F:=⟨sc,vs,c.d,q⟩) U I M R Y hi (ak (hl▸((aF.mp hi).1))) (f4 (b9 S).2) λa ha=>(b.ok (c:=⟨c.g,c.d,_,E7⟩) hT h4 (w a ha)).mono λf J' Z' r=>?_
       rw[<- YS hl];exact(Q1 r)
    | ty C Ja U O Y E=>rw[O] at h8;exact tf h8
   ·cases nM hT k with
    | own C Ja C' L U I O Y=>exact cx1 (F:=⟨sc,vs,c.d,q⟩) U I M R Y (r.ok hT hl h5 w)
    | ty C Ja U O Y E=>cases E
def IS.tri(b:ISs)(y:IHs):IS where
 ck T sc vs x:=e7 (sp x).tri λu=>u.2.2.1.isEmpty&&(u.2.2.2.isEmpty&&(!u.2.1.isEmpty&&(b.ck T sc vs u.1&&y.ck T sc vs u.2.1)))
 w q K:=λc s J Z=>b.w q l6 ⟨c.g,c.d,nx K c s,λx J Z=>y.w K x c s J Z⟩ s J Z
 ok {T q c sc vs z K s J Z} hT hc h:=by
  apply abP (x:=z);intro A P;apply cc6 hc;intro bd l Ja R p hc1;k_extra"aP"
  obtain rfl:Ja=[]:=bx.mp h1;obtain rfl:R=[]:=bx.mp h2;refine P _ ?_;cases l with
  | nil=>exact(az h3).elim
  | cons M l=>exact Ug (((b.ok (c:=⟨c.g,c.d,nx K c s,λx J Z=>y.w K x c s J Z⟩) hT h4 h).mono λf J Z h=>Q1 h).xmono λx J Z w=>Zf λhl=>y.ok hT hl h5 w)
structure NmT(P:Program)(T:Tab)(g:G):Prop where
 prog:g.prog=P
 tab:TabOK g T
structure Pb(P:Program)(T:Tab)(n:Nat)(c:Cx):Prop where
 N:NmT P T c.g
 d:n<=c.d
structure Pk(P:Program)(T:Tab)(g:G)(n:Nat)(Q:VP)(X:XP)(c:Cx):Prop where
 N:NmT P T c.g
 e:c.g=g
 d:n<=c.d
 r:∀ {v J Z Z'},Sub Z' Z->Q v Z'->c.Q (.ret v) J Z
 x:∀ {x J Z},X x Z->c.X x J Z
def fnK:Option Item->Option Nat
 | some (.fn k)=>some k
 | some (.mth k)=>some k
 | _=>none
noncomputable def pU(f:PySem.DefRec):List Str:=f.params.args.map (·.arg)++((f.scope.names.filter λx=>(x.2==.local||x.2==.cell) && !(f.params.args.map (·.arg)).contains x.1).map (·.1))
def f7(T:Tab)(P:Program)(f:Str)(k m n:Nat)(q:ISs):Bool:=
 (fnK (T.lookup f)==some k)&&(uV (dAt P k).params (dAt P k).scope (pU (dAt P k))&&(q.ck T (dAt P k).scope (pU (dAt P k)) (dAt P k).body&&(((dAt P k).params.args.length==n)&&((pU (dAt P k)).length==m))))
def Bnd(q:PySem.DefRec)(n:Nat):Prop:=∀ nm u R Ja y M,M.length=n->bindArgs (E0 nm u q.params q.body q.scope R Ja y) ⟨M,[]⟩=pure ((q.params.args.map (·.arg)).zip M)
noncomputable def ini:Nat->List V->Lo
 | 0,_=>[]
 | n+1,x::l=>some x::ini n l
 | n+1,[]=>none::ini n []
theorem wY:∀ m,ini m []=aC m none
 | 0=>rfl
 | m+1=>congrArg (none :: ·) (wY m)
theorem GC:∀ {m:Nat},as.length<=m->ini m as=as.map some++aC (m-as.length) none:=by
 induction as with
 | nil=>exact fun{m} _=>wY m
 | cons x l ih=>
  intro m h;cases m with
  | zero=>cases h
  | succ m=>rw[bD,Nat.add_sub_add_right];exact congrArg (some x :: ·) (ih (gW h))
theorem bW8{g:G}{T:Tab}(D:TabOK g T)(h:(fnK (T.lookup f)==some k)=true):FnAt g f (dAt g.prog k).params (dAt g.prog k).body (dAt g.prog k).scope:=by
 have h:=eq_of_beq h;cases e:T.lookup f with
 | none=>rw[e] at h;exact f8 h
 | some Y=>
  rw[e] at h;cases Y with
  | fn j=>have h:=d7 h;subst h;exact(D.at' e).1
  | mth j=>have h:=d7 h;subst h;exact D.at' e
  | _=>exact f8 h
theorem bdn{P:Program}{T:Tab}{g:G}{n:Nat}{E:ISs}{Q:VP}{X:XP}(N:NmT P T g)(O:f7 T P f k m as.length E=true)(Y:Bnd (dAt P k) as.length)(hD:n+1<=D)
  (h:∀ c,Pk P T g n Q X c->(∀ {J Z Z'},Sub Z' Z->Q .none Z'->c.Q .next J Z)->E.w q l6 c [] (ini m as) Z):d8 g D q f as Z Q X:=by
 obtain⟨U,u⟩:=N;subst U;obtain⟨Za,S,L,H,I⟩:=(b9 O).imp id λh=>(b9 h).imp id λh=>(b9 h).imp id b9;clear O
 obtain⟨d,rfl⟩:∃ d,D=d+1:=⟨D-1,by exact(jd (aj (aZ ..) hD)).symm⟩
 have M:=eq_of_beq H;have F:=eq_of_beq I;have C:as.length<=m:=by rw[<- M,<- F];unfold pU;rw[aK,aq];exact cC _ _
 have w:=h ⟨g,d,λf j Z=>∃ Z',Sub Z' Z/\Q (Ai f) Z',λx j Z=>X x Z⟩ ⟨⟨rfl,u⟩,rfl,gW hD,fun{v J Z Z'} s q=>⟨Z',s,q⟩,λq=>q⟩ fun{J Z Z'} s q=>⟨Z',s,q⟩
 rw[GC C,<- F] at w;exact VD (bW8 u Za) S M (λnm qn R Ja y us e=>Y nm qn R Ja y us (e.trans M)) ((E.ok (c:=⟨g,d,_,_⟩) u L w).mono λfl J' Z' p=>Q1 p)
theorem bd{P:Program}{T:Tab}{g:G}{n:Nat}{Q:VP}{X:XP}(N:NmT P T g)(O:f7 T P f k m as.length u=true)(Y:Bnd (dAt P k) as.length)(hD:n+1<=D)
  (h:∀ c,Pk P T g n Q X c->u.w q l6 c [] (ini m as) Z):d8 g D q f as Z Q X:=bdn N O Y hD λc p j=>h c p
theorem Ak{P:List Value->Prop}(h:∀ a,P [a])(M:List Value)(e:M.length=1):P M:=by
 cases M with
 | nil=>cases e
 | cons a M=>cases M with
  | nil=>exact h a
  | cons _ _=>cases e
theorem FN{P:List Value->Prop}(h:∀ a b,P [a,b])(M:List Value)(e:M.length=2):P M:=by
 cases M with
 | nil=>cases e
 | cons a M=>exact Ak (P:=λM=>P (a::M)) (h a) M (Nat.succ.inj e)
theorem xm{P:List Value->Prop}(h:∀ a b c,P [a,b,c])(M:List Value)(e:M.length=3):P M:=by
 cases M with
 | nil=>cases e
 | cons a M=>exact FN (P:=λM=>P (a::M)) (h a) M (Nat.succ.inj e)
theorem yh{P:List Value->Prop}(h:∀ a b c d,P [a,b,c,d])(M:List Value)(e:M.length=4):P M:=by
 cases M with
 | nil=>cases e
 | cons a M=>exact xm (P:=λM=>P (a::M)) (h a) M (Nat.succ.inj e)
theorem En{P:List Value->Prop}(h:∀ a b c d e,P [a,b,c,d,e])(M:List Value)(e:M.length=5):P M:=by
 cases M with
 | nil=>cases e
 | cons a M=>exact yh (P:=λM=>P (a::M)) (h a) M (Nat.succ.inj e)
theorem vs7{P:List Value->Prop}(h:∀ a b c d e f g,P [a,b,c,d,e,f,g])(M:List Value)(e:M.length=7):P M:=by
 cases M with
 | nil=>cases e
 | cons a M=>cases M with
  | nil=>cases e
  | cons b M=>exact En (P:=λM=>P (a::b::M)) (h a b) M (Nat.succ.inj (Nat.succ.inj e))
section
variable{P:Program}{T:Tab}{g:G}{n:Nat}{Q:VP}{X:XP}{c:Cx}{A B:Prop}
theorem Pk.h(p:Pk P T g n Q X c){J:Lo}(h:Q v Z):c.Q (.ret v) J Z:=p.r (Sub.refl _) h
theorem Pk.b(p:Pk P T g n Q X c){b:Bool}{J:Lo}(e:a=b)(h:Q (.bool b) Z):c.Q (.ret (.bool a)) J Z:=by subst e;exact p.h h
theorem Pk.dd(p:Pk P T g n Q X c)(h:k<=n):k<=c.d:=aj h p.d
theorem Pb.dd(p:Pb P T n c)(h:k<=n):k<=c.d:=aj h p.d
theorem RX(Za:b=true->A)(S:b=false->B):Ite b A B:=⟨Za,S⟩
theorem Yp(h:A):Ite true A B:=⟨λz_=>h,λe=>ft e⟩
theorem UL(h:B):Ite false A B:=⟨λe=>tf e,λz_=>h⟩
theorem bN3(h:Ite b B A):Ite (!b) A B:=by
 cases b with
 | true=>exact⟨λe=>tf e,λz_=>h.1 rfl⟩
 | false=>exact⟨λz_=>h.2 rfl,λe=>ft e⟩
theorem bh4(Y:b=true)(h:A):Ite b A B:=⟨λz_=>h,λe=>ft (Y.symm.trans e)⟩
theorem bg9(Y:b=false)(h:B):Ite b A B:=⟨λe=>tf (Y.symm.trans e),λz_=>h⟩
theorem bs4{p:Prop}[Decidable p](Za:p->A)(S:¬ p->B):Ite (decide p) A B:=⟨λh=>Za (f4 h),λh=>S (of_decide_eq_false h)⟩
theorem bp0{b:Int}(Za:a=b->A)(S:a≠b->B):Ite (a==b) A B:=⟨λh=>Za (beq_iff_eq.mp h),λh=>S (beq_eq_false_iff_ne.mp h)⟩
theorem Qu{b:Int}(Za:a≠b->A)(S:a=b->B):Ite (a != b) A B:=⟨λh=>Za (bne_iff_ne.mp h),λh=>S (bne_eq_false_iff_eq.mp h)⟩
theorem Yj{b:Nat}(Za:a=b->A)(S:a≠b->B):Ite (a==b) A B:=⟨λh=>Za (beq_iff_eq.mp h),λh=>S (beq_eq_false_iff_ne.mp h)⟩
theorem WN{b:Str}(Za:a=b->A)(S:a≠b->B):Ite (a==b) A B:=⟨λh=>Za (beq_iff_eq.mp h),λh=>S (beq_eq_false_iff_ne.mp h)⟩
theorem Qz{b:Str}(Za:a≠b->A)(S:a=b->B):Ite (a != b) A B:=⟨λh=>Za (bne_iff_ne.mp h),λh=>S (bne_eq_false_iff_eq.mp h)⟩
theorem bc4{b:Bool}(Za:a≠b->A)(S:a=b->B):Ite (a != b) A B:=⟨λh=>Za (bne_iff_ne.mp h),λh=>S (bne_eq_false_iff_eq.mp h)⟩
end
theorem K4(P:V->Prop){n:Int}{K:V->Prop}(Y:0<=n)(Za:n<l.length)(y:∀ x∈l,P x)(h:∀ x,P x->K x):Pick l n K:=
 ⟨Y,Za,λx e=>h x (y x (aL e))⟩
theorem HD{P:Nat->V->Prop}:∀ {i j:Nat} {x:V},O9 P i l->l[j]?=some x->P (i+j) x:=by
 induction l with
 | nil=>intro i j x _ e;cases e
 | cons y l ih=>
  intro i j x h e;cases j with
  | zero=>have e:=d7 e;subst e;exact h.1
  | succ j=>
   have:=ih (j:=j) h.2 e;rw[dZ,iD 1 j] at this;exact this
theorem bx3{n:Int}{K:V->Prop}(Y:0<=n)(Za:n<l.length)(h:O9 (λi x=>n=(i:Nat)->K x) 0 l):Pick l n K:=
 ⟨Y,Za,λx e=>HD (P:=λi x=>n=(i:Nat)->K x) h e (by rw[iJ];exact(bQ Y).symm)⟩
section
variable{PP:Program}{TT:Tab}{gg:G}{n:Nat}{QQ:VP}{W:TG}{B K:KT}{c:Cx}{s:List V}{J:Lo}
theorem Loop.g{P:Hp->Prop}(p:Pk PP TT gg n QQ XX c)(I:List V->Lo->Hp->Prop)(Y:I L J Z)
  (k:∀ x,Pk PP TT gg n QQ XX x->(∀ {J Z},K c s J Z->x.Q .brk J Z)->∀ v l,(∀ {J Z},I l J Z->x.Q .next J Z)->∀ u Z',I (v::l) u Z'->P Z'/\W.w v u λq=>B x s q Z')
  (w:∀ u Z',I [] u Z'->P Z'/\K c s u Z'):Loop W B K L P c s J Z:=
 .mk I Y (λv l u Z' h=>k (c.wQ (F2 (nx K c s) I l)) ⟨p.N,p.e,p.d,λa b=>p.r a b,p.x⟩ (λh=>h) v l (λh=>h) u Z' h) w
inductive RJ(a b:Int)(Ja:Nat->Lo->Hp->Prop):List V->Lo->Hp->Prop
 | mk {J:Lo} {Z:Hp} (i:Nat) (e:i<=(b-a).toNat) (k:Ja i J Z):RJ a b Ja ((m7 a 1 (b-a).toNat).drop i) J Z
theorem RJ.inv{J:Lo}(h:RJ a b Ja l J Z):∃ i,i<=(b-a).toNat/\l=(m7 a 1 (b-a).toNat).drop i/\Ja i J Z:=by
 cases h with | mk i e k=>exact⟨i,e,rfl,k⟩
theorem vA{b:Int}{i:Nat}(h:a+i<b):i+1<=(b-a).toNat:=by lia
theorem x3{b:Int}(p:Pk PP TT gg n QQ XX c)(I:Nat->Lo->Hp->Prop)(Y:I 0 J Z)
  (k:∀ x,Pk PP TT gg n QQ XX x->(∀ {J Z},K c s J Z->x.Q .brk J Z)->∀ i:Nat,a+i<b->(∀ {J Z},I (i+1) J Z->x.Q .next J Z)->∀ u Z',I i u Z'->W.w (.int (a+i)) u λq=>B x s q Z')
  (w:∀ u Z',I (b-a).toNat u Z'->K c s u Z'):Loop W B K (m7 a 1 (b-a).toNat) (λz_=>True) c s J Z:=by
 refine Loop.g p (RJ a b I) (.mk 0 (aY _) Y) (λx F E v l C u Z' h=>?_) λu Z' h=>?_
 ·refine f6 h.inv λi e hl D=>i5 (yC hl) λZa Ja H=>?_
  subst Ja;rw[H] at C h hl;have y:=jo (Int.lt_toNat.mp Za);exact⟨trivial,k x F E i y (λh=>C (.mk _ (vA y) h)) u Z' D⟩
 ·refine f6 h.inv λi e hl k=>?_;clear h
  obtain rfl:=xA e hl;exact⟨trivial,w u Z' k⟩
theorem CLoop.g{P:Hp->Prop}(p:Pk PP TT gg n QQ XX c)(I:List V->List V->Hp->Prop)(hz:L.length<=10000)(Y:I L [] Z)
  (k:∀ q,Pb PP TT n q->∀ v l acc,(∀ {y J Z},I l (acc++[y]) Z->q.Q (.ret y) J Z)->(∀ {J Z},I l acc Z->q.Q .next J Z)->∀ Z',I (v::l) acc Z'->P Z'/\B q [] (some v::s6 J u) Z')
  (w:∀ acc Z',I [] acc Z'->P Z'/\New Z' λa=>K c (.ref a::s) J (upd Z' a (.L acc))):CLoop B K u L P c s J Z:=
 .mk I hz Y (λv l acc Z' h=>k ⟨c.g,c.d,ynQ (λy Z=>I l (acc++[y]) Z) (λZ=>I l acc Z),E7⟩ ⟨p.N,p.d⟩ v l acc (λh=>h) (λh=>h) Z' h) w
inductive CJ(a b:Int)(Ja:Nat->List V->Hp->Prop):List V->List V->Hp->Prop
 | mk {acc:List V} {Z:Hp} (i:Nat) (e:i<=(b-a).toNat) (k:Ja i acc Z):CJ a b Ja ((m7 a 1 (b-a).toNat).drop i) acc Z
theorem CJ.inv(h:CJ a b Ja l acc Z):∃ i,i<=(b-a).toNat/\l=(m7 a 1 (b-a).toNat).drop i/\Ja i acc Z:=by
 cases h with | mk i e k=>exact⟨i,e,rfl,k⟩
theorem U9{a b:Int}(p:Pk PP TT gg n QQ XX c)(I:Nat->List V->Hp->Prop)(hz:b-a<=10000)(Y:I 0 [] Z)
  (k:∀ q,Pb PP TT n q->∀ (i:Nat) acc,a+i<b->(∀ {y J Z},I (i+1) (acc++[y]) Z->q.Q (.ret y) J Z)->(∀ {J Z},I (i+1) acc Z->q.Q .next J Z)->∀ Z',I i acc Z'->B q [] (some (.int (a+i))::s6 J x) Z')
  (w:∀ acc Z',I (b-a).toNat acc Z'->New Z' λa=>K c (.ref a::s) J (upd Z' a (.L acc))):CLoop B K x (m7 a 1 (b-a).toNat) (λz_=>True) c s J Z:=by
 refine CLoop.g p (CJ a b I) (by rw[O5];exact fW.mpr hz) (.mk 0 (aY _) Y) (λq D v l acc Za S Z' h=>?_) λacc Z' h=>?_
 ·refine f6 h.inv λi e hl C=>i5 (yC hl) λL Ja E=>?_
  subst Ja;subst E;have u:=jo (Int.lt_toNat.mp L);exact⟨trivial,k q D i acc u (λh=>Za (.mk _ (vA u) h)) (λh=>S (.mk _ (vA u) h)) Z' C⟩
 ·refine f6 h.inv λi e hl k=>?_;clear h
  obtain rfl:=xA e hl;exact⟨trivial,w acc Z' k⟩
theorem Whl.g(p:Pk PP TT gg n QQ XX c)(I:Nat->Lo->Hp->Prop)(m:Nat)(Y:I m J Z)
  (k:∀ u,Pk PP TT gg n QQ XX u->(∀ {J Z},K c s J Z->u.Q .brk J Z)->∀ m,(∀ {j J Z},j<m->I j J Z->u.Q .next J Z)->∀ q Z',I m q Z'->B u s q Z'):Whl B K c s J Z:=
 .mk I m Y λm q Z' h=>k (c.wQ (whQ (nx K c s) I m)) ⟨p.N,p.e,p.d,λa b=>p.r a b,p.x⟩ (λh=>h) m (fun{j J Z} Za S=>⟨j,Za,S⟩) q Z' h
theorem LoopZ.g{F:List Nat}(p:Pk PP TT gg n QQ XX c)(M:Z a=some (.L l))(H:Z b=some (.L m))(I:Nat->Lo->Hp->Prop)(Y:I 0 J Z)
  (k:∀ D,Pk PP TT gg n QQ XX D->∀ i x y,(∀ {J Z},I (i+1) J Z->D.Q .next J Z)->∀ u Z',l[i]?=some x->m[i]?=some y->I i u Z'->ZipK a b l m u Z'/\R8 F [x,y] u λq=>B D s q Z')
  (w:∀ u Z',I (min l.length m.length) u Z'->ZipK a b l m u Z'/\K c s u Z'):LoopZ F B K a b c s J Z:=
 .mk l m M H I Y (λi x y u Z' E C h=>k (c.wQ (T8 (nx K c s) I (i+1))) ⟨p.N,p.e,p.d,λa b=>p.r a b,p.x⟩ i x y (λh=>h) u Z' E C h) w
end
def Aq(n:Str):Option Item->Bool
 | some (.ob c _)=>c.contains n
 | _=>false
def vd(n f:Str):Option Item->Bool
 | some (.ob _ c)=>c.contains (n,f)
 | _=>false
def xP:Option Item->Bool
 | some (.mth _)=>true
 | _=>false
section
variable{g:G}{T:Tab}
theorem Hi(hT:TabOK g T)(h:Aq n (T.lookup x)=true):∃ as ms,OCl g x as ms/\n∈as:=by
 cases e:T.lookup x with
 | none=>rw[e] at h;exact tf h
 | some it=>cases it with
  | ob as ms=>rw[e] at h;exact⟨as,ms,hT.at' e,fG.mp h⟩
  | _=>rw[e] at h;exact tf h
theorem Ef(hT:TabOK g T)(h:vd n f (T.lookup x)=true):∃ as ms,OCl g x as ms/\(n,f)∈ms:=by
 cases e:T.lookup x with
 | none=>rw[e] at h;exact tf h
 | some it=>cases it with
  | ob as ms=>rw[e] at h;exact⟨as,ms,hT.at' e,fG.mp h⟩
  | _=>rw[e] at h;exact tf h
theorem Jk(D:TabOK g T)(h:xP (T.lookup x)=true):∃ c w q,FnAt g x c w q:=by
 cases e:T.lookup x with
 | none=>rw[e] at h;exact tf h
 | some it=>cases it with
  | mth k=>exact⟨_,_,_,D.at' e⟩
  | _=>rw[e] at h;exact tf h
end
inductive AAt(Z:Hp)(x:Addr)(cls nm:Str)(K:V->Prop):Prop
 | mk (d:Addr) (fs:List (Str×V)) (u:V) (hx:Z x=some (.ob cls d)) (hd:Z d=some (.na fs)) (hu:(nm,u)∈fs) (k:K u):AAt Z x cls nm K
inductive OAt(Z:Hp)(x:Addr)(cls nm:Str)(P:Prop):Prop
 | mk (d:Addr) (fs:List (Str×V)) (hx:Z x=some (.ob cls d)) (hd:Z d=some (.na fs)) (hn:(fs.map (·.1)).contains nm=false) (k:P):OAt Z x cls nm P
inductive ASet(Z:Hp)(x:Addr)(cls nm:Str)(v:V)(K:Hp->Prop):Prop
 | mk (d:Addr) (fs:List (Str×V)) (hx:Z x=some (.ob cls d)) (hd:Z d=some (.na fs)) (hz:fs.length<=100) (k:K (upd Z d (.na (B4 fs nm v)))):ASet Z x cls nm v K
def Je(cls nm:Str)(K:KT):KT:=λc s q H=>s1 (λv s=>m5 (λx=>AAt H x cls nm λu=>K c (u::s) q H) v) s
def wX(T:Tab)(cls nm:Str)(k:Expr->Bool)(u:Expr×Str×Pos):Bool:=decide (u.2.1=nm)&&(Aq nm (T.lookup cls)&&((s0 u.1).isSome&&k u.1))
def IE.attr(cls nm:Str)(a:IE):IE where
 ck T sc vs x:=e7 (E2 x) (wX T cls nm (a.ck T sc vs))
 w q K:=a.w q (Je cls nm K)
 ok {T q c sc vs x K s J Z} hT hc h:=by
  k_extra"T";intro D P;apply H8 hc;intro o n p hc1;k_extra"x"
  k_extra"a4"
  obtain rfl:o=_:=e;k_extra"c5"
  refine P _ (bz1 oc hn ((a.ok hT h4 h).mono λv Z h=>?_))
  obtain⟨x,rfl,d,A,u,U,C,L,k⟩:=s9 (show m5 _ v from h);clear h
  exact⟨x,d,A,u,rfl,U,C,L,k⟩
def Yd(cls nm:Str)(K:KT):KT:=λc s q H=>s2 (λv o s=>m5 (λx=>ASet H x cls nm v (K c s q)) o) s
theorem GJ:swapsWith e (some (.Attribute o n p)) k env=pure false:=by cases e<;>rfl
def IS.seta(cls nm:Str)(o e:IE):IS where
 ck T sc vs x:=e7 (I6 x) λt=>one t.1 λn=>e.ck T sc vs t.2.1&&e7 (E2 n) (wX T cls nm (o.ck T sc vs))
 w q K:=e.w q (o.w q (Yd cls nm K))
 ok {T q c sc vs x K s J Z} hT hc h:=by
  k_extra"T";intro H P;k_extra"A"
  refine d5 (b9 hc2) λY A=>?_;clear hc2
  obtain rfl:t=[n]:=e2;apply H8 (x:=n) A;intro E n p F;obtain⟨h1,h2,h3,X⟩:=(b9 F).imp id λh=>(b9 h).imp id b9;clear F
  k_extra"a4"
  obtain rfl:E=_:=e;k_extra"c5"
  refine P _ (KC oc hn ((e.ok hT Y h).mono λv Z h=>(o.ok hT X h).mono λa Z h=>?_) λR=>GJ)
  obtain⟨x,rfl,d,C,U,D,M,k⟩:=s9 (show m5 _ a from h);clear h
  refine⟨x,d,C,rfl,U,D,?_,k⟩;rw[aq];exact cU (aj (aj (iy _ _) M) (by decide))
def TV(cls nm:Str)(K:KT):KT:=λc s q H=>s1 (λv s=>m5 (λx=>OAt H x cls nm (K c (v::s) q H)) v) s
def IE.mcall(cls nm f:Str)(o:IE)(M:IEs):IE where
 ck T sc vs x:=vd nm f (T.lookup cls)&&(xP (T.lookup f)&&e7 (A8 x) λt=>t.2.2.1.isEmpty&&e7 (E2 t.1) (sr nm (o.ck T sc vs) (M.ck T sc vs) t.2.1 t.2.2.2))
 w q K:=o.w q (TV cls nm (M.w q (rY q f (M.n+1) K)))
 ok {T q c sc vs x K s J Z} hT hc h:=by
  k_extra"T";intro I P;refine i5 ((b9 hc).imp id b9) λE F hc=>i6 (Ef hT E) λy L H C=>?_
  apply O2 hc;intro fe y ks p hc1;refine d5 (b9 hc1) λh0 hc2=>?_;clear hc1
  obtain rfl:ks=[]:=bx.mp h0;apply H8 (x:=fe) hc2;intro O n Ja hc3;k_extra"j"
  obtain rfl:n=nm:=f4 h1;refine P _ ?_;refine Kq H C (Jk hT F) ((o.ok hT h5 h).mono λv Z h=>?_) h2 (λR=>P4 h3) (λR=>X9 (M.st h6 R p) (f4 h4))
  obtain⟨x,rfl,d,u,U,A,D,k⟩:=s9 (show m5 _ v from h)
  refine⟨x,d,u,rfl,U,A,λq=>?_,(M.ok (K:=rY q f (M.n+1) K) hT h6 k).mono λl Z h=>?_⟩
  ·have:(u.map (·.1)).contains n=true:=fG.mpr q
   exact ft (this.symm.trans D)
  ·exact D6 (l:=.ref x::l) (k:=λl s=>d8 c.g c.d q f l Z (ps K c s J) (xC c J)) (congrArg (· + 1) h.1) h.2
def Wy(q:Bool)(cls f:Str)(n:Nat)(K:KT):KT:=λc s w H=>C8 n [] s λl s=>Req (1<=c.d) (New H λd=>New (upd H d (.na [])) λx=>d8 c.g (c.d-1) q f (.ref x::l) (upd (upd H d (.na [])) x (.ob cls d)) (λv u=>v=.none/\K c (.ref x::s) w u) noX)
def IE.new(cls f:Str)(M:IEs):IE where
 ck T sc vs x:=s8 x λn as=>decide (n=cls)&&(gl sc n&&(vd "__init__" f (T.lookup cls)&&M.ck T sc vs as))
 w q K:=M.w q (Wy q cls f M.n K)
 ok {T q c sc vs x K s J Z} hT hc h:=by
  k_extra"T";intro C P;k_extra"f"
  k_extra"x"
  k_extra"cn"
  refine i6 (Ef hT h3) λas D A y=>?_;clear h3
  refine P _ (Rg (F:=⟨sc,vs,c.d,q⟩) A y h5 h6 ((M.ok hT h4 h).mono λl Z h=>?_))
  obtain⟨p,k⟩:=D6 (k:=λl s=>Req (1<=c.d) (New Z λd=>New (upd Z d (.na [])) λx=>d8 c.g (c.d-1) q f (.ref x::l) (upd (upd Z d (.na [])) x (.ob n d)) (λv u=>v=.none/\K c (.ref x::s) J u) noX)) h.1 h.2;try clear q;try clear h
  exact⟨p,k⟩
inductive Itms(Z:Hp)(a:Addr)(Q:VP):Prop
 | mk (L:List (Str×V)) (h:Z a=some (.ds L)) (hz:L.length<=10000) (k:∀ b,Z b=none->Q (.ref b) (upd Z b (.L (L.map F1)))):Itms Z a Q
def Og(K:KT):KT:=λc s q H=>s1 (λv s=>m5 (λa=>Itms H a (ps K c s q)) v) s
def rI(k:Expr->Bool)(r:Expr):Bool:=e7 (A8 r) λt=>t.2.2.1.isEmpty&&(t.2.1.isEmpty&&e7 (E2 t.1) λu=>decide (u.2.1=aa "items")&&((u.2.2.endLine==t.2.2.2.line)&&(Y3 u.1&&k u.1)))
theorem yc{r:Expr}{P:Expr->Prop}(h:rI k r=true)(K:∀ o c p,(c.endLine==p.line)=true->Y3 o=true->k o=true->P (.Call (.Attribute o (aa "items") c) [] [] p)):P r:=by
 apply O2 h;intro f as ks p hc1;refine i5 ((b9 hc1).imp id b9) λh0 h1 hc2=>?_;clear hc1
 obtain rfl:ks=[]:=bx.mp h0;obtain rfl:as=[]:=bx.mp h1;apply H8 (x:=f) hc2;intro o n c hc3;k_extra"6";clear h
 obtain rfl:n=_:=f4 h1;exact K o c p h2 h3 h4
def IE.items(a:IE):IE where
 ck T sc vs x:=s8 x (biC T sc (D5 "list") (Q7 (rI (a.ck T sc vs))))
 w q K:=qK q (a.w q (Og K))
 ok {T q c sc vs x K s J Z} hT hc h:=by
  k_extra"cP"
  k_extra"E"
  k_extra"5"
  k_extra"aj"
  apply yc (r:=r) hc3;intro o A D E C u;refine P _ ?_;cases q with
  | false=>exact h.elim
  | true=>
   refine ca4 (F:=⟨sc,vs,c.d,true⟩) (x6 hT h2) k1 k2 rfl ((a.ok hT u h).mono λv Z h=>?_) E λR=>P4 C
   obtain⟨b,rfl,L,hL,M,k⟩:=s9 (show m5 _ v from h);clear h
   exact⟨b,L,rfl,hL,M,k⟩
inductive Srtp(Z:Hp)(ps:List (Str×Int))(Q:VP):Prop
 | mk (hn:(ps.map (·.1)).Nodup) (hz:ps.length<=4) (k:∀ (b:Addr) (ps':List (Str×Int)),Z b=none->ps'.Perm ps->ps'.Pairwise ltP->Q (.ref b) (upd Z b (.L (ps'.map tS)))):Srtp Z ps Q
inductive SrtI(Z:Hp)(a:Addr)(Q:VP):Prop
 | mk (ps:List (Str×Int)) (h:Z a=some (.ds (ps.map λp=>(p.1,V.int p.2)))) (k:Srtp Z ps Q):SrtI Z a Q
inductive SrtL(Z:Hp)(a:Addr)(Q:VP):Prop
 | mk (ps:List (Str×Int)) (h:Z a=some (.L (ps.map tS))) (k:Srtp Z ps Q):SrtL Z a Q
def Tv(K:KT):KT:=λc s q H=>s1 (λv s=>m5 (λa=>SrtI H a (ps K c s q)) v) s
def IE.sitems(a:IE):IE where
 ck T sc vs x:=s8 x (biC T sc (L6 "sorted") (Q7 (rI (a.ck T sc vs))))
 w q K:=qK q (a.w q (Tv K))
 ok {T q c sc vs x K s J Z} hT hc h:=by
  k_extra"T";intro A P;k_extra"f"
  k_extra"E"
  k_extra"5"
  k_extra"aj"
  apply yc (r:=r) hc3;intro o D H E C u;refine P _ ?_;cases q with
  | false=>exact h.elim
  | true=>
   refine Yv (F:=⟨sc,vs,c.d,true⟩) (nj hT h2) k1 k2 rfl ((a.ok hT u h).mono λv Z h=>?_) E λR=>P4 C
   obtain⟨b,rfl,L,hL,y,M,k⟩:=s9 (show m5 _ v from h);clear h
   exact⟨b,L,rfl,hL,y,M,k⟩
def IE.sortp(a:IE):IE:=.bf "sorted" (λq N l H Q=>quiet (un (m5 λa=>SrtL H a Q) l) q) (fun{q g c u d l w H Q X} h=>L0 (C:=λq=>Cl g ⟨c,u,d,q⟩ (.builtin "sorted") l w H Q X) h λh=>by
 refine a7 (E6 h) λx qa k=>?_;subst qa;obtain⟨a,rfl,ps,e,hn,hz,k⟩:=s9 k;exact bB6 e hn hz k) (.cons a .nil)
def BV(K:KT):KT:=λc s q H=>s3 (λo i x s=>m5 (λa=>D7 (λn=>Own H a λH k=>Req (k.length<=10000/\0<=n/\n<=k.length) (K c (.none::s) q (upd H a (.L (k.take n.toNat++x::k.drop n.toNat))))) i) o) s
def IE.insert(o i e:IE):IE where
 ck T sc vs x:=e7 (A8 x) λt=>t.2.2.1.isEmpty&&e7 (E2 t.1) (sr (aa "insert") (o.ck T sc vs) ((IEs.cons i (.cons e .nil)).ck T sc vs) t.2.1 t.2.2.2)
 w q K:=o.w q (Dl (i.w q (e.w q (BV K))))
 ok {T q c sc vs x K s J Z} hT hc h':=by
  k_extra"T";intro E P;k_extra"M"
  k_extra"ak";intro H n F hc3;k_extra"j";try clear h
  obtain rfl:n=_:=f4 h1;refine P _ ?_;refine Cu PySem.F.slot_list_insert PySem.F.type_list_insert ((o.ok hT h5 h').mono λv Z h'=>?_) h2 (λR=>P4 h3) (λR=>X9 ((IEs.cons i (.cons e .nil)).st h6 R p) (f4 h4))
  obtain⟨a,rfl,l,e',h'⟩:=s9 h';exact⟨a,l,rfl,e',((IEs.cons i (.cons e .nil)).ok (K:=BV K) hT h6 h').mono λM Z ⟨C,A⟩=>by
   obtain⟨x,y,rfl⟩:∃ x y,M=[x,y]:=by cases M with | nil=>cases C | cons x l=>cases l with | nil=>cases C | cons y l=>cases l with | nil=>exact⟨x,y,rfl⟩ | cons _ _=>cases C
   refine a7 (P6 (show D7 _ x from A)) λn Ja A=>?_;subst Ja
   obtain⟨l,D,e,⟨p,k⟩,u⟩:=A.elim;exact Yy e p.1 p.2.1 p.2.2 (by rw[u];exact k)⟩
set_option maxRecDepth 20000
theorem D4(n:Nat):((n:Int)-0).toNat=n:=by rw[lM];rfl
theorem Qp(n:Nat):((n:Int)-1-0).toNat=n-1:=by rw[lM];exact Int.toNat_sub n 1
theorem yO{p:Nat}(h:p<=10000):0<=(p:Int)/\(0+1)*(p:Int).toNat<=10000/\(p:Int)<=10000:=⟨bB _,by rw[iJ,Nat.one_mul];exact h,bj.mpr h⟩
theorem vK{n a:Nat}(h:a<n):n-(a+1)<n-a:=Nat.sub_lt_sub_left h (dO a)
theorem nzc{a:Int}{b:Nat}(h:a=((b+1:Nat):Int))(h':a=0):False:=absurd (gY.mp (h.symm.trans h')) (ik b)
theorem uw{a m:Int}(M:0<=a)(h:a<=m)(c:m<=2 ^ 60):s5 a:=⟨aW (by decide) M,aW h c⟩
theorem z60{a m:Nat}(h:a<=m)(c:m<=10000):s5 (a:Int):=uw (bB _) (bj.mpr (aj h c)) (by decide)
theorem Zm{a b m:Nat}(e:b=a)(h:a<=m)(c:m<=10000):s5 (b:Int):=e▸z60 h c
theorem zeq{a b m n:Nat}(e:b=a)(h:a<=m)(c:m<=n):b<=n:=aj (aG e) (aj h c)
theorem zlt{a m:Nat}{n:Int}(h:a<=m)(c:(m:Int)<n):(a:Int)<n:=bG (bj.mpr h) c
abbrev IEs.c1(a:IE):IEs:=.cons a .nil
abbrev IEs.c2(a b:IE):IEs:=.cons a (.c1 b)
abbrev IEs.c3(a b d:IE):IEs:=.cons a (.c2 b d)
abbrev IEs.c4(a b d e:IE):IEs:=.cons a (.c3 b d e)
abbrev IEs.c5(a b d e f:IE):IEs:=.cons a (.c4 b d e f)
abbrev IEs.c6(a b d e f h:IE):IEs:=.cons a (.c5 b d e f h)
abbrev IEs.c7(a b d e f h i:IE):IEs:=.cons a (.c6 b d e f h i)
abbrev ISs.c1(a:IS):ISs:=.cons a .nil
abbrev ISs.c2(a b:IS):ISs:=.cons a (.c1 b)
abbrev ISs.c3(a b d:IS):ISs:=.cons a (.c2 b d)
abbrev ISs.c4(a b d e:IS):ISs:=.cons a (.c3 b d e)
abbrev ISs.c5(a b d e f:IS):ISs:=.cons a (.c4 b d e f)
abbrev ISs.c6(a b d e f h:IS):ISs:=.cons a (.c5 b d e f h)
abbrev ISs.c7(a b d e f h i:IS):ISs:=.cons a (.c6 b d e f h i)
abbrev ISs.c8(a b d e f h i j:IS):ISs:=.cons a (.c7 b d e f h i j)
abbrev ISs.c9(a b d e f h i j k:IS):ISs:=.cons a (.c8 b d e f h i j k)
theorem zl3{a m:Nat}{b n:Int}(h:b<a)(k:a<=m)(c:(m:Int)<n):b<n:=cL h (zlt k c)
theorem zmi{a m:Int}(M:0<=a)(h:a<=m)(c:m<=10000):0<=a/\(0+1)*a.toNat<=10000/\a<=10000:=⟨M,by rw[iJ,Nat.one_mul];exact fW.mpr (aW h c),aW h c⟩
abbrev IE.a:IE:=.v 0
abbrev IE.b:IE:=.v 1
abbrev IE.d:IE:=.v 2
abbrev IE.e:IE:=.v 3
abbrev IE.f:IE:=.v 4
abbrev IE.g:IE:=.v 5
abbrev IE.h:IE:=.v 6
abbrev IE.i:IE:=.v 7
abbrev IE.j:IE:=.v 8
abbrev IE.l:IE:=.v 9
abbrev IE.n(i:Int):IE:=.k (.int i)
abbrev IE.z(x:Str):IE:=.k (.str x)
abbrev IE.nx(a b:IE):IE:=.call "_law_next" (.c2 a b)
abbrev TG.b:TG:=.v 1
abbrev TG.d:TG:=.v 2
abbrev TG.e:TG:=.v 3
abbrev TG.f:TG:=.v 4
abbrev TG.g:TG:=.v 5
abbrev TG.h:TG:=.v 6
abbrev TG.i:TG:=.v 7
abbrev TG.j:TG:=.v 8
abbrev TG.l:TG:=.v 9
theorem zme{a b m:Nat}(e:b=a)(h:a<=m)(c:m<=10000):0<=(b:Int)/\(0+1)*(b:Int).toNat<=10000/\(b:Int)<=10000:=yO (zeq e h c)
theorem zmn{a m:Int}{b:Nat}(h:(b:Int)<=a)(k:a<=m)(c:m<=10000):0<=(b:Int)/\(0+1)*(b:Int).toNat<=10000/\(b:Int)<=10000:=yO (bj.mp (aW h (aW k c)))
theorem zix{a b c m:Nat}(h:b<a)(e:c=a)(k:a<=m)(q:m<=10000):0<=(b:Int)/\(b:Int)<c/\c<=10000:=⟨bB _,e▸aQ.mpr h,zeq e k q⟩
theorem zab{a b c d m n:Nat}(e:b+c=a)(f:d=b)(h:a<=m)(q:m<=n):d<=n:=f▸aj (cC b c) (e▸aj h q)
theorem zq5{a b c:Nat}(h:(a:Int)<5)(k:b<=c+2*((a:Int)-0).toNat):b<=c+8:=aj k (cM (by rw[D4];exact gq 2 (cz (aQ.mp h))) c)
def tab:Tab:=[(aa "is_from",.fn 14),
 (aa "is_number",.fn 15),
 (aa "is_row",.fn 16),
 (aa "is_table",.fn 17),
 (aa "at_number",.fn 18),
 (aa "is_word",.fn 24),
 (aa "within",.fn 25),
 (aa "is_fitting",.fn 26),
 (aa "is_one",.fn 27),
 (aa "is_rule",.fn 28),
 (aa "gathered",.fn 29),
 (aa "named",.fn 30),
 (aa "steps_to",.fn 35),
 (aa "ring_from",.fn 36),
 (aa "ring_of",.fn 37),
 (aa "form_of",.fn 38),
 (aa "order_of",.fn 39),
 (aa "papers_of",.fn 41),
 (aa "need_taken",.fn 42),
 (aa "of_two",.fn 43),
 (aa "leaf",.fn 44),
 (aa "worth",.fn 45),
 (aa "reckoned",.fn 46),
 (aa "history",.fn 47),
 (aa "File.__init__",.mth 1050),
 (aa "File.reckon",.mth 2050),
 (aa "File.renew",.mth 3050),
 (aa "File.need_year",.mth 4050),
 (aa "File.put",.mth 5050),
 (aa "File.take",.mth 6050),
 (aa "File.values",.mth 7050),
 (aa "File.value",.mth 8050),
 (aa "File.owed",.mth 9050),
 (aa "File.told",.mth 10050),
 (aa "_law_cell_at",.fn 52),
 (aa "_law_mixed",.fn 53),
 (aa "_law_next",.fn 54),
 (aa "_law_whole",.fn 55),
 (aa "_law_number",.fn 56),
 (aa "_law_table",.fn 57),
 (aa "_law_words",.fn 58),
 (aa "_law_plain",.fn 59),
 (aa "_law_rule",.fn 60),
 (aa "_law_sizes",.fn 61),
 (aa "_law_order",.fn 62),
 (aa "_law_form",.fn 63),
 (aa "_law_named",.fn 64),
 (aa "_law_at",.fn 65),
 (aa "_law_value",.fn 66),
 (aa "_law_alone",.fn 67),
 (aa "_law_row",.fn 68),
 (aa "_law_all",.fn 69),
 (aa "_law_changed",.fn 70),
 (aa "_law_told",.fn 71),
 (aa "_law_tried",.fn 72),
 (aa "_law_refused",.fn 73),
 (aa "_law_wrong",.fn 74),
 (aa "_law_deed",.fn 75),
 (aa "_law_noted",.fn 76),
 (aa "_law_kept",.fn 77),
 (aa "_law_looked",.fn 78),
 (aa "_law_step",.fn 79),
 (aa "_law_begun",.fn 80),
 (aa "law",.fn 81),
 (aa "DEEPEST",.int 8),
 (aa "File",.ob ["form","papers","marks","rows"] [("__init__","File.__init__"),("reckon","File.reckon"),("renew","File.renew"),("need_year","File.need_year"),("put","File.put"),("take","File.take"),("values","File.values"),("value","File.value"),("owed","File.owed"),("told","File.told")]),
 (aa "FormError",.cls 24 (vbm)),
 (aa "GREATEST",.int 1000000000),
 (aa "LETTERS",.str "abcdefghijklmnopqrstuvwxyz"),
 (aa "LONGEST",.int 8),
 (aa "MOST_CHOICES",.int 8),
 (aa "MOST_LINES",.int 40),
 (aa "MOST_ROWS",.int 20),
 (aa "MOST_TABLES",.int 5),
 (aa "MOST_YEARS",.int 8),
 (aa "NoChoice",.cls 121 (.ref 24::vbm)),
 (aa "NoForm",.cls 49 (.ref 24::vbm)),
 (aa "NoLine",.cls 109 (.ref 24::vbm)),
 (aa "NoPaper",.cls 85 (.ref 24::vbm)),
 (aa "NoRule",.cls 61 (.ref 24::vbm)),
 (aa "NoTable",.cls 37 (.ref 24::vbm)),
 (aa "NoYear",.cls 97 (.ref 24::vbm)),
 (aa "Ring",.cls 73 (.ref 24::vbm)),
 (aa "SIZES",.dict szs),
 (aa "TooMany",.cls 133 (.ref 24::vbm)),
 (aa "ValueError",.ty "ValueError"),
 (aa "all",.bi "all"),
 (aa "bool",.ty "bool"),
 (aa "dict",.ty "dict"),
 (aa "int",.ty "int"),
 (aa "isinstance",.bi "isinstance"),
 (aa "len",.bi "len"),
 (aa "list",.ty "list"),
 (aa "max",.bi "max"),
 (aa "min",.bi "min"),
 (aa "range",.ty "range"),
 (aa "set",.ty "set"),
 (aa "sorted",.bi "sorted"),
 (aa "str",.ty "str"),
 (aa "sum",.bi "sum"),
 (aa "tuple",.ty "tuple"),
 (aa "zip",.ty "zip")]
noncomputable def pq:Program:=mJ
def cc1:ISs:=(.c1 (.ret (.and (.isi .a .int) (.and (.not (.isi .a .bool)) (.chain .LtE .LtE .b .a .d)))))
theorem bG5:f7 tab pq "is_from" 14 3 3 cc1=true:=by k_extra"#"
def aX7:ISs:=(.c1 (.ret (.call "is_from" (.c3 .a (.bin .Sub (.n 0) (.n 1000000000)) (.n 1000000000)))))
theorem Vr:f7 tab pq "is_number" 15 1 1 aX7=true:=by k_extra"#"
def Vh:ISs:=(.c2 (.iff (.or (.not (.of (.isi .a .tuple))) (.cmp .NotEq (.len .a) (.n 3))) (.c1 (.ret (.k (.bool false)))) .nil) (.ret (.and (.call "is_number" (.c1 (.itk .a 0))) (.and (.call "is_number" (.c1 (.itk .a 1))) (.call "is_from" (.c3 (.itk .a 2) (.n 0) (.n 100)))))))
theorem bR6:f7 tab pq "is_row" 16 1 1 Vh=true:=by k_extra"#"
def cx5:ISs:=(.c3 (.iff (.or (.not (.of (.isi .a .tuple))) (.not (.chain .LtE .LtE (.n 1) (.len .a) (.n 20)))) (.c1 (.ret (.k (.bool false)))) .nil) (.loop .b .a (.c1 (.iff (.not (.of (.call "is_row" (.c1 .b)))) (.c1 (.ret (.k (.bool false)))) .nil))) (.ret (.all (.comp [0] (.r1 (.bin .Sub (.len .a) (.n 1))) (.e (.cmp .Lt (.itk (.itm .b .a) 0) (.itk (.itm .b (.bin .Add .a (.n 1))) 0)))))))
theorem Td:f7 tab pq "is_table" 17 2 1 cx5=true:=by k_extra"#"
def JN:ISs:=(.c3 (.asg 2 (.n 0)) (.loop (.t [3,4,5]) .a (.c1 (.iff (.cmp .LtE .e .b) (.c1 (.asg 2 (.bin .Add .f (.bin .FloorDiv (.bin .Mult (.bin .Sub .b .e) .g) (.n 100))))) .nil))) (.ret .d))
theorem Ww:f7 tab pq "at_number" 18 6 2 JN=true:=by k_extra"#"
def Jd:ISs:=(.c2 (.iff (.or (.not (.of (.isi .a .str))) (.not (.chain .LtE .LtE (.n 1) (.len .a) (.n 8)))) (.c1 (.ret (.k (.bool false)))) .nil) (.ret (.all (.comp [] (.e .a) (.e (.cmp .In .a (.z "abcdefghijklmnopqrstuvwxyz")))))))
theorem Hx:f7 tab pq "is_word" 24 1 1 Jd=true:=by k_extra"#"
def cu7:ISs:=(.c5 (.asg 1 (.itk .a 0)) (.iff (.cmp .In .b (.tup (.c4 (.z "number") (.z "paper") (.z "line") (.z "earlier")))) (.c1 (.ret (.L .nil))) .nil) (.iff (.cmp .Eq .b (.z "part")) (.c1 (.ret (.L (.c1 (.itk .a 1))))) .nil) (.iff (.or (.cmp .Eq .b (.z "table")) (.cmp .Eq .b (.z "choose"))) (.c1 (.ret (.list (.slc .a (.e (.n 2)) .no)))) .nil) (.ret (.list (.slc .a (.e (.n 1)) .no))))
theorem PX:f7 tab pq "within" 25 2 1 cu7=true:=by k_extra"#"
def Up:ISs:=(.c8 (.asg 4 (.itk .a 0)) (.iff (.cmp .Eq .f (.z "number")) (.c1 (.ret (.call "is_number" (.c1 (.itk .a 1))))) .nil) (.iff (.cmp .Eq .f (.z "paper")) (.c1 (.ret (.call "is_word" (.c1 (.itk .a 1))))) .nil) (.iff (.or (.cmp .Eq .f (.z "line")) (.cmp .Eq .f (.z "earlier"))) (.c1 (.ret (.call "is_from" (.c3 (.itk .a 1) (.n 0) (.bin .Sub .b (.n 1)))))) .nil) (.iff (.cmp .Eq .f (.z "part")) (.c1 (.ret (.call "is_from" (.c3 (.itk .a 2) (.n 0) (.n 100))))) .nil) (.iff (.cmp .Eq .f (.z "table")) (.c1 (.ret (.call "is_from" (.c3 (.itk .a 1) (.n 0) (.bin .Sub .d (.n 1)))))) .nil) (.iff (.cmp .Eq .f (.z "choose")) (.c1 (.ret (.call "is_from" (.c3 (.itk .a 1) (.n 0) (.bin .Sub .e (.n 1)))))) .nil) (.ret (.k (.bool true))))
theorem Ja2:f7 tab pq "is_fitting" 26 5 4 Up=true:=by k_extra"#"
def Kh:ISs:=(.c4 (.iff (.or (.cmp .Eq .b (.n 0)) (.or (.not (.of (.isi .a .tuple))) (.or (.cmp .Eq .a (.tup .nil)) (.not (.of (.isi (.itk .a 0) .str)))))) (.c1 (.ret (.k (.bool false)))) .nil) (.iff (.or (.cmp .NotEq (.get szs (.itk .a 0)) (.len .a)) (.not (.of (.call "is_fitting" (.c4 .a .d .e .f))))) (.c1 (.ret (.k (.bool false)))) .nil) (.loop .g (.call "within" (.c1 .a)) (.c1 (.iff (.not (.of (.call "is_one" (.c5 .g (.bin .Sub .b (.n 1)) .d .e .f)))) (.c1 (.ret (.k (.bool false)))) .nil))) (.ret (.k (.bool true))))
theorem Zo:f7 tab pq "is_one" 27 6 5 Kh=true:=by k_extra"#"
def bd4:ISs:=(.c1 (.ret (.call "is_one" (.c5 .a (.n 8) .b .d .e))))
theorem Vw:f7 tab pq "is_rule" 28 4 4 bd4=true:=by k_extra"#"
def Cp:ISs:=(.c2 (.loop .e (.call "within" (.c1 .a)) (.cons (.asg 2 (.bin .Add .d (.call "gathered" (.c2 .e .b)))) (.drop .nil))) (.ret .d))
def J6:ISs:=(.cons (.asg 2 (.L .nil)) (.cons (.iff (.cmp .Eq (.itk .a 0) .b) (.c1 (.expr (.append .d (.itk .a 1)))) .nil) (.stop Cp)))
theorem Mx:f7 tab pq "gathered" 29 4 2 J6=true:=by k_extra"#"
def ZK:ISs:=(.c1 (.ret (.sset (.call "gathered" (.c2 .a .b)))))
theorem KR:f7 tab pq "named" 30 2 2 ZK=true:=by k_extra"#"
def by9:ISs:=(.c5 (.asg 2 (.dic1 .b (.n 0))) (.asg 3 (.L (.c1 .b))) (.asg 4 (.n 0)) (.whil (.cmp .Lt .f (.len .e)) (.c3 (.asg 5 (.itm .e .f)) (.loopi .h (.r1 (.len .a)) (.c1 (.iff (.and (.cmp .In .g (.itm .a .h)) (.cmp .NotIn .h .d)) (.c2 (.seti .d .h (.bin .Add (.itm .d .g) (.n 1))) (.expr (.append .e .h))) .nil))) (.asg 4 (.bin .Add .f (.n 1))))) (.ret .d))
theorem Wx:f7 tab pq "steps_to" 35 7 2 by9=true:=by k_extra"#"
def Uq:ISs:=(.cons (.asg 2 (.call "steps_to" (.c2 .a .b))) (.cons (.asgc 3 [2] (.e (.itm .a .b)) (.t (.cmp .In .a .b) (.itm .b .a))) (.cons (.iff (.cmp .Eq .e (.L .nil)) (.c1 (.ret (.L .nil))) .nil) .any)))
theorem cr0:f7 tab pq "ring_from" 36 6 2 Uq=true:=by k_extra"#"
def br1:ISs:=(.c4 (.asgc 1 [] (.e .a) (.e (.call "named" (.c2 .a (.z "line"))))) (.asg 2 (.L .nil)) (.loopi .e (.r1 (.len .a)) (.c2 (.asg 4 (.call "ring_from" (.c2 .b .e))) (.iff (.and (.cmp .NotEq .f (.L .nil)) (.or (.cmp .Eq .d (.L .nil)) (.cmp .Lt (.len .f) (.len .d)))) (.c1 (.asg 2 .f)) .nil))) (.ret .d))
theorem IW:f7 tab pq "ring_of" 37 5 1 br1=true:=by k_extra"#"
def GZ:ISs:=(.c6 (.iff (.or (.cmp .Gt (.len .b) (.n 5)) (.not (.of (.all (.comp [] (.e .b) (.e (.call "is_table" (.c1 .a)))))))) (.c1 (.rais "NoTable" (.c1 (.z "no tables")))) .nil) (.asg 4 (.len .a)) (.iff (.or (.not (.chain .LtE .LtE (.n 1) .f (.n 40))) (.or (.not (.of (.call "is_from" (.c3 .d (.n 0) (.n 8))))) (.not (.of (.call "is_from" (.c3 .e (.n 0) (.bin .Sub .f (.n 1)))))))) (.c1 (.rais "NoForm" (.c1 (.z "no form")))) .nil) (.loop .g .a (.c1 (.iff (.not (.of (.call "is_rule" (.c4 .g .f (.len .b) .d)))) (.c1 (.rais "NoRule" (.c1 (.z "no rule")))) .nil))) (.iff (.cmp .NotEq (.call "ring_of" (.c1 .a)) (.L .nil)) (.c1 (.rais "Ring" (.c1 (.z "lines in a ring")))) .nil) (.ret (.tup (.c4 (.tuple .a) (.tuple .b) .d .e))))
theorem Uk:f7 tab pq "form_of" 38 6 4 GZ=true:=by k_extra"#"
def Vm:ISs:=(.c4 (.asgc 1 [] (.e (.itk .a 0)) (.e (.call "named" (.c2 .a (.z "line"))))) (.asg 2 (.L .nil)) (.whil (.cmp .Lt (.len .d) (.len .b)) (.c1 (.loopi .e (.r1 (.len .b)) (.c1 (.iff (.and (.cmp .NotIn .e .d) (.of (.all (.comp [2] (.e (.itm .b .e)) (.e (.cmp .In .a .b)))))) (.c2 (.expr (.append .d .e)) .brk) .nil))))) (.ret .d))
theorem RP:f7 tab pq "order_of" 39 4 1 Vm=true:=by k_extra"#"
def Gv:ISs:=(.c4 (.iff (.not (.of (.isi .a .list))) .any .nil) (.asg 1 (.dic0 true)) (.loop .d .a (.c3 (.iff (.or (.not (.of (.isi .d .tuple))) (.or (.cmp .NotEq (.len .d) (.n 2)) (.or (.not (.of (.call "is_word" (.c1 (.itk .d 0))))) (.not (.of (.call "is_number" (.c1 (.itk .d 1)))))))) .any .nil) (.iff (.cmp .In (.itk .d 0) .b) .any .nil) (.seti .b (.itk .d 0) (.itk .d 1)))) (.ret .b))
theorem cx4:f7 tab pq "papers_of" 41 3 1 Gv=true:=by k_extra"#"
def Yt:ISs:=(.c2 (.iff (.or (.not (.of (.isl .b))) (.cmp .NotEq (.len .b) (.itk .a 2))) .any .nil) (.loop .d .b (.c1 (.iff (.not (.of (.isi .d .bool))) .any .nil))))
theorem Iv:f7 tab pq "need_taken" 42 3 2 Yt=true:=by k_extra"#"
def J7:ISs:=(.c4 (.iff (.cmp .Eq .a (.z "add")) (.c1 (.ret (.bin .Add .b .d))) .nil) (.iff (.cmp .Eq .a (.z "take")) (.c1 (.ret (.bin .Sub .b .d))) .nil) (.iff (.cmp .Eq .a (.z "least")) (.c1 (.ret (.min .b .d))) .nil) (.ret (.max .b .d)))
theorem Xg:f7 tab pq "of_two" 43 3 3 J7=true:=by k_extra"#"
def Jf:ISs:=(.c6 (.unp [2,3,4,5,6] 1) (.iff (.cmp .Eq (.itk .a 0) (.z "number")) (.c1 (.ret (.itk .a 1))) .nil) (.iff (.cmp .Eq (.itk .a 0) (.z "paper")) (.c1 (.ret (.dg2 .d (.itk .a 1) (.n 0)))) .nil) (.iff (.cmp .Eq (.itk .a 0) (.z "line")) (.c1 (.ret (.itm .h (.itk .a 1)))) .nil) (.iff (.cmp .Eq (.len .e) (.n 0)) (.c1 (.ret (.n 0))) .nil) (.ret (.itm .e (.itk .a 1))))
theorem bG0:f7 tab pq "leaf" 44 7 2 Jf=true:=by k_extra"#"
def Tw:ISs:=(.c7 (.asg 2 (.itk .a 0)) (.iff (.cmp .In .d (.tup (.c4 (.z "number") (.z "paper") (.z "line") (.z "earlier")))) (.c1 (.ret (.call "leaf" (.c2 .a .b)))) .nil) (.iff (.cmp .Eq .d (.z "part")) (.c1 (.ret (.bin .FloorDiv (.bin .Mult (.call "worth" (.c2 (.itk .a 1) .b)) (.itk .a 2)) (.n 100)))) .nil) (.iff (.cmp .Eq .d (.z "table")) (.c1 (.ret (.call "at_number" (.c2 (.itm (.itk .b 3) (.itk .a 1)) (.call "worth" (.c2 (.itk .a 2) .b)))))) .nil) (.iff (.cmp .Eq .d (.z "where")) (.c2 (.iff (.cmp .Gt (.call "worth" (.c2 (.itk .a 1) .b)) (.n 0)) (.c1 (.ret (.call "worth" (.c2 (.itk .a 2) .b)))) .nil) (.ret (.call "worth" (.c2 (.itk .a 3) .b)))) .nil) (.iff (.cmp .Eq .d (.z "choose")) (.c2 (.iff (.of (.itm (.itk .b 2) (.itk .a 1))) (.c1 (.ret (.call "worth" (.c2 (.itk .a 3) .b)))) .nil) (.ret (.call "worth" (.c2 (.itk .a 2) .b)))) .nil) (.ret (.call "of_two" (.c3 .d (.call "worth" (.c2 (.itk .a 1) .b)) (.call "worth" (.c2 (.itk .a 2) .b))))))
theorem Uh:f7 tab pq "worth" 45 3 2 Tw=true:=by k_extra"#"
def JS:ISs:=(.c6 (.asg 4 (.call "papers_of" (.c1 .b))) (.expr (.call "need_taken" (.c2 .a .e))) (.asg 5 (.dic0 false)) (.asg 6 (.tup (.c5 .f .d .e (.itk .a 1) .g))) (.loop .i (.call "order_of" (.c1 .a)) (.c1 (.seti .g .i (.call "worth" (.c2 (.itm (.itk .a 0) .i) .h))))) (.ret (.comp [5] (.r1 (.len (.itk .a 0))) (.e (.itm .b .a)))))
theorem Li:f7 tab pq "reckoned" 46 8 4 JS=true:=by k_extra"#"
def cb7:ISs:=(.c4 (.asg 3 (.L .nil)) (.asg 4 (.L .nil)) (.loopz [5,6] .b .d (.c2 (.asg 4 (.call "reckoned" (.c4 .a .g .f .h))) (.expr (.append .e .f)))) (.ret (.comp [] (.e .e) (.e (.list .a)))))
theorem bb7:f7 tab pq "history" 47 7 3 cb7=true:=by k_extra"#"
def ZM:ISs:=(.c5 (.iff (.not (.of (.call "is_from" (.c3 .d (.n 1) (.n 8))))) (.c1 (.rais "NoForm" (.c1 (.z "no such years")))) .nil) (.seta "File" "form" .a .b) (.seta "File" "papers" .a (.comp [] (.r1 .d) (.e (.dic0 true)))) (.seta "File" "marks" .a (.comp [1] (.r1 .d) (.e (.bin .Mult (.L (.c1 (.k (.bool false)))) (.itk .b 2))))) (.seta "File" "rows" .a (.mcall "File" "reckon" "File.reckon" .a .nil)))
theorem Hw:f7 tab pq "File.__init__" 1050 3 3 ZM=true:=by k_extra"#"
def Ii:ISs:=(.c2 (.asgc 1 [] (.e (.attr "File" "papers" .a)) (.e (.items .a))) (.ret (.call "history" (.c3 (.attr "File" "form" .a) .b (.attr "File" "marks" .a)))))
theorem YH:f7 tab pq "File.reckon" 2050 2 1 Ii=true:=by k_extra"#"
def Wt:ISs:=(.c5 (.asg 1 (.mcall "File" "reckon" "File.reckon" .a .nil)) (.asg 2 (.L .nil)) (.loopi .e (.r1 (.len .b)) (.c1 (.loopi .f (.r1 (.len (.itm .b .e))) (.c1 (.iff (.cmp .NotEq (.itm (.itm .b .e) .f) (.itm (.itm (.attr "File" "rows" .a) .e) .f)) (.c1 (.expr (.append .d (.tup (.c2 .e .f))))) .nil))))) (.seta "File" "rows" .a .b) (.ret .d))
theorem bF7:f7 tab pq "File.renew" 3050 5 1 Wt=true:=by k_extra"#"
def Vj:ISs:=(.c1 (.iff (.not (.of (.call "is_from" (.c3 .b (.n 0) (.bin .Sub (.len (.attr "File" "rows" .a)) (.n 1)))))) (.c1 (.rais "NoYear" (.c1 (.z "no such year")))) .nil))
theorem Nz:f7 tab pq "File.need_year" 4050 2 2 Vj=true:=by k_extra"#"
def bf1:ISs:=(.c4 (.expr (.mcall "File" "need_year" "File.need_year" .a (.c1 .b))) (.iff (.or (.not (.of (.call "is_word" (.c1 .d)))) (.not (.of (.call "is_number" (.c1 .e))))) (.c1 (.rais "NoPaper" (.c1 (.z "no paper")))) .nil) (.seti (.itm (.attr "File" "papers" .a) .b) .d .e) (.ret (.mcall "File" "renew" "File.renew" .a .nil)))
theorem by3:f7 tab pq "File.put" 5050 4 4 bf1=true:=by k_extra"#"
def Kc:ISs:=(.c4 (.expr (.mcall "File" "need_year" "File.need_year" .a (.c1 .b))) (.iff (.not (.of (.call "is_from" (.c3 .d (.n 0) (.bin .Sub (.itk (.attr "File" "form" .a) 2) (.n 1)))))) (.c1 (.rais "NoChoice" (.c1 (.z "no such choice")))) .nil) (.seti (.itm (.attr "File" "marks" .a) .b) .d .e) (.ret (.mcall "File" "renew" "File.renew" .a .nil)))
theorem bN7:f7 tab pq "File.take" 6050 4 4 Kc=true:=by k_extra"#"
def Xd:ISs:=(.c2 (.expr (.mcall "File" "need_year" "File.need_year" .a (.c1 .b))) (.ret (.list (.itm (.attr "File" "rows" .a) .b))))
theorem Nk:f7 tab pq "File.values" 7050 2 2 Xd=true:=by k_extra"#"
def Nx:ISs:=(.c3 (.expr (.mcall "File" "need_year" "File.need_year" .a (.c1 .b))) (.iff (.not (.of (.call "is_from" (.c3 .d (.n 0) (.bin .Sub (.len (.itk (.attr "File" "form" .a) 0)) (.n 1)))))) (.c1 (.rais "NoLine" (.c1 (.z "no such line")))) .nil) (.ret (.itm (.itm (.attr "File" "rows" .a) .b) .d)))
theorem GQ:f7 tab pq "File.value" 8050 3 3 Nx=true:=by k_extra"#"
def Xp:ISs:=(.c1 (.ret (.sum (.comp [0] (.e (.attr "File" "rows" .a)) (.e (.itm .a (.itk (.attr "File" "form" .b) 3)))))))
theorem Mh:f7 tab pq "File.owed" 9050 1 1 Xp=true:=by k_extra"#"
def by4:ISs:=(.c2 (.expr (.mcall "File" "need_year" "File.need_year" .a (.c1 .b))) (.ret (.tup (.c2 (.sitems (.itm (.attr "File" "papers" .a) .b)) (.list (.itm (.attr "File" "marks" .a) .b))))))
theorem aX5:f7 tab pq "File.told" 10050 2 2 by4=true:=by k_extra"#"
def Ht:ISs:=(.c2 (.iff (.cmp .Lt .b (.len .a)) (.c1 (.ret (.itm .a .b))) .nil) (.ret (.n 0)))
theorem Xj:f7 tab pq "_law_cell_at" 52 2 2 Ht=true:=by k_extra"#"
def LC:ISs:=(.c1 (.ret (.bin .Mod (.bin .Mult (.bin .Add .a (.bin .Mult (.n 7919) .b)) (.n 48271)) (.n 2147483647))))
theorem cs6:f7 tab pq "_law_mixed" 53 2 2 LC=true:=by k_extra"#"
def bD1:ISs:=(.c2 (.seti .a (.n 0) (.bin .Mod (.bin .Add (.bin .Mult (.itk .a 0) (.n 48271)) (.n 11)) (.n 2147483647))) (.ret (.bin .Mod (.bin .FloorDiv (.itk .a 0) (.n 7)) .b)))
theorem Yw:f7 tab pq "_law_next" 54 2 2 bD1=true:=by k_extra"#"
def SN:ISs:=(.c1 (.ret (.and (.isi .a .int) (.not (.isi .a .bool)))))
theorem bI6:f7 tab pq "_law_whole" 55 1 1 SN=true:=by k_extra"#"
def Zd:ISs:=(.c4 (.asg 1 (.nx .a (.n 6))) (.iff (.cmp .Eq .b (.n 0)) (.c1 (.ret (.pick (.c4 (.neg (.pw 9 1000000000)) (.pw 9 1000000000) (.bin .Sub (.pw 9 1000000000) (.n 1)) (.bin .Sub (.n 1) (.pw 9 1000000000))) (.nx .a (.n 4))))) .nil) (.iff (.cmp .Eq .b (.n 1)) (.c1 (.ret (.bin .Sub (.nx .a (.n 2000001)) (.n 1000000)))) .nil) (.ret (.bin .Sub (.nx .a (.n 61)) (.n 20))))
theorem Rn:f7 tab pq "_law_number" 56 2 1 Zd=true:=by k_extra"#"
def vN:ISs:=(.c2 (.expr (.append .e (.tup (.c3 .d (.call "_law_number" (.c1 .a)) .g)))) (.asg 2 (.bin .Add (.bin .Add .d (.n 1)) (.pick (.c2 (.nx .a (.n 40)) (.nx .a (.n 20000))) (.nx .a (.n 2))))))
def rJ:ISs:=(.c3 (.asg 3 (.L .nil)) (.loopi .f (.r1 .b) (.cons (.asg 5 (.pick (.c3 (.n 0) (.n 100) (.nx .a (.n 101))) (.nx .a (.n 3)))) (.stop vN))) (.ret (.tuple .e)))
def yq:ISs:=(.cons (.asg 2 (.pick (.c3 (.neg (.pw 9 1000000000)) (.bin .Sub (.nx .a (.n 2001)) (.n 1000)) (.bin .Sub (.pw 9 1000000000) (.bin .Mult (.n 20000) .b))) (.bin .FloorDiv (.nx .a (.n 12)) (.n 5)))) (.stop rJ))
def cb4:ISs:=(.cons (.asg 1 (.bin .Add (.n 1) (.nx .a (.n 4)))) (.cons (.iff (.cmp .Eq (.nx .a (.n 8)) (.n 1)) (.c1 (.asg 1 (.bin .Add (.n 5) (.nx .a (.n 16))))) .nil) (.stop yq)))
theorem bD4:f7 tab pq "_law_table" 57 6 1 cb4=true:=by k_extra"#"
def Od:ISs:=(.c6 (.asg 1 (.z "abcdefghijklmnopqrstuvwxyz")) (.asg 2 (.z "")) (.loopi .e (.r1 (.n 8)) (.c1 (.asg 2 (.bin .Add .d (.itm .b (.nx .a (.n 26))))))) (.asg 4 (.L (.c2 (.slc .d .no (.e (.bin .Add (.n 1) (.nx .a (.n 8))))) .d))) (.loopi .e (.r1 (.n 3)) (.c2 (.asg 5 (.nx .a (.n 8))) (.expr (.append .f (.bin .Add (.bin .Add (.slc .d .no (.e .g)) (.itm .b (.nx .a (.n 26)))) (.slc .d (.e (.bin .Add .g (.n 1))) (.e (.bin .Add (.bin .Add (.n 1) .g) (.nx .a (.n 8)))))))))) (.ret (.bin .Add .f (.slc (.L (.c3 (.z "line") (.z "paper") (.z "add"))) .no (.e (.nx .a (.n 4)))))))
theorem cv9:f7 tab pq "_law_words" 58 6 1 Od=true:=by k_extra"#"
def Ng:ISs:=(.c5 (.asg 4 (.nx .a (.n 5))) (.iff (.cmp .Eq .f (.n 0)) (.c1 (.ret (.tup (.c2 (.z "number") (.call "_law_number" (.c1 .a)))))) .nil) (.iff (.and (.cmp .Lt .f (.n 3)) (.cmp .Gt (.len .b) (.n 0))) (.c1 (.ret (.tup (.c2 (.z "line") (.itm .b (.nx .a (.len .b))))))) .nil) (.iff (.cmp .Eq .f (.n 3)) (.c1 (.ret (.tup (.c2 (.z "earlier") (.nx .a (.itk .d 0)))))) .nil) (.ret (.tup (.c2 (.z "paper") (.itm .e (.nx .a (.len .e)))))))
theorem Ln:f7 tab pq "_law_plain" 59 5 4 Ng=true:=by k_extra"#"
def by8:ISs:=(.cons (.asg 5 (.nx .a (.n 12))) (.cons (.iff (.or (.cmp .Lt .b (.n 2)) (.cmp .Lt .g (.n 2))) (.c1 (.ret (.call "_law_plain" (.c4 .a .d .e .f)))) .nil) (.cons (.asg 6 (.call "_law_rule" (.c5 .a (.bin .Sub .b (.n 1)) .d .e .f))) (.c9 (.iff (.cmp .Eq .g (.n 6)) (.c1 (.ret (.tup (.c3 (.z "part") .h (.pick (.c3 (.n 0) (.n 100) (.nx .a (.n 101))) (.nx .a (.n 3))))))) .nil) (.iff (.and (.cmp .Eq .g (.n 7)) (.cmp .Gt (.itk .e 1) (.n 0))) (.c1 (.ret (.tup (.c3 (.z "table") (.nx .a (.itk .e 1)) .h)))) .nil) (.iff (.cmp .Eq .g (.n 7)) (.c1 (.ret .h)) .nil) (.asg 7 (.call "_law_rule" (.c5 .a (.min (.bin .Sub .b (.n 1)) (.n 2)) .d .e .f))) (.iff (.cmp .Eq (.nx .a (.n 2)) (.n 1)) (.c1 (.swap 6 7 .i .h)) .nil) (.iff (.cmp .Lt .g (.n 6)) (.c1 (.ret (.tup (.c3 (.pick (.c4 (.z "add") (.z "take") (.z "least") (.z "most")) (.bin .Sub .g (.n 2))) .h .i)))) .nil) (.iff (.cmp .Lt .g (.n 10)) (.c1 (.ret (.tup (.c4 (.z "where") .h .i (.call "_law_rule" (.c5 .a (.min (.bin .Sub .b (.n 1)) (.n 2)) .d .e .f)))))) .nil) (.iff (.cmp .Gt (.itk .e 2) (.n 0)) (.c1 (.ret (.tup (.c4 (.z "choose") (.nx .a (.itk .e 2)) .h .i)))) .nil) (.ret (.tup (.c3 (.z "take") .i .h)))))))
theorem Jj:f7 tab pq "_law_rule" 60 8 5 by8=true:=by k_extra"#"
def Bw:ISs:=(.c3 (.asg 4 (.bin .Mod (.bin .FloorDiv .a (.n 88128)) (.n 4))) (.iff (.cmp .Eq (.bin .Mod (.bin .FloorDiv .a (.n 352512)) (.n 8)) (.n 1)) (.c1 (.asg 4 (.bin .Add (.n 4) (.bin .Mod (.bin .FloorDiv .a (.n 2820096)) (.n 5))))) .nil) (.ret (.tup (.c3 .d .e .f))))
def Dd:ISs:=(.cons (.asg 3 (.bin .Mod (.bin .FloorDiv .a (.n 1224)) (.n 3))) (.cons (.iff (.cmp .Eq (.bin .Mod (.bin .FloorDiv .a (.n 3672)) (.n 8)) (.n 1)) (.c1 (.asg 3 (.bin .Add (.n 3) (.bin .Mod (.bin .FloorDiv .a (.n 29376)) (.n 3))))) .nil) (.stop Bw)))
def RL:ISs:=(.cons (.asg 2 (.bin .Add (.n 1) (.bin .Mod .a (.n 6)))) (.cons (.iff (.cmp .Eq (.bin .Mod (.bin .FloorDiv .a (.n 6)) (.n 6)) (.n 1)) (.c1 (.asg 2 (.bin .Add (.n 7) (.bin .Mod (.bin .FloorDiv .a (.n 36)) (.bin .Sub .b (.n 6)))))) .nil) (.stop Dd)))
theorem Yo:f7 tab pq "_law_sizes" 61 5 2 RL=true:=by k_extra"#"
def J5:ISs:=(.c4 (.asg 2 (.lrng .b)) (.asg 3 (.L .nil)) (.whil (.cmp .Gt (.len .d) (.n 0)) (.c1 (.expr (.append .e (.pop .d (.nx .a (.len .d))))))) (.ret .e))
theorem Uu:f7 tab pq "_law_order" 62 4 2 J5=true:=by k_extra"#"
def Dh:ISs:=(.c2 (.asgc 9 [2] (.r1 (.itk .e 1)) (.e (.call "_law_table" (.c1 .b)))) (.ret (.L (.c5 .g .l (.itk .e 2) (.nx .d (.itk .e 0)) .f))))
def Ag:ISs:=(.c2 (.seti .g .i (.call "_law_rule" (.c5 .d .j (.list .h) .e .f))) (.expr (.append .h .i)))
def YW:ISs:=(.cons (.asg 2 (.L (.c1 (.call "_law_mixed" (.c2 (.call "_law_cell_at" (.c2 .a (.n 0))) (.n 1)))))) (.cons (.asg 3 (.call "_law_sizes" (.c2 (.call "_law_mixed" (.c2 (.call "_law_cell_at" (.c2 .a (.n 1))) (.n 2))) .b))) (.cons (.asg 4 (.call "_law_words" (.c1 .d))) (.cons (.asg 5 (.bin .Mult (.L (.c1 (.tup (.c2 (.z "number") (.n 0))))) (.itk .e 0))) (.cons (.asg 6 (.L .nil)) (.cons (.loop .i (.call "_law_order" (.c2 .d (.itk .e 0))) (.cons (.asg 8 (.bin .Add (.n 1) (.nx .d (.n 3)))) (.cons (.iff (.cmp .Eq (.nx .d (.n 12)) (.n 1)) (.c1 (.asg 8 (.bin .Add (.n 4) (.nx .d (.n 5))))) .nil) (.stop Ag)))) (.stop Dh)))))))
theorem Ku:f7 tab pq "_law_form" 63 10 2 YW=true:=by k_extra"#"
def Gn:ISs:=(.c2 (.loop .e (.slc .a (.e (.n 1)) .no) (.cons (.iff (.of (.isi .e .tuple)) (.c1 (.asg 2 (.bin .Add .d (.comp [2] (.e (.call "_law_named" (.c2 .e .b))) (.t (.cmp .NotIn .a .b) .a))))) .nil) (.drop .nil))) (.ret (.sorted .d)))
def Qs:ISs:=(.cons (.asg 2 (.L .nil)) (.cons (.iff (.cmp .Eq (.itk .a 0) .b) (.c1 (.expr (.append .d (.itk .a 1)))) .nil) (.stop Gn)))
theorem JD:f7 tab pq "_law_named" 64 4 2 Qs=true:=by k_extra"#"
def bQ9:ISs:=(.c3 (.asg 2 (.n 0)) (.loop .e .a (.c1 (.iff (.cmp .GtE .b (.itk .e 0)) (.c1 (.asg 2 (.bin .Add (.itk .e 1) (.bin .FloorDiv (.bin .Mult (.bin .Sub .b (.itk .e 0)) (.itk .e 2)) (.n 100))))) .nil))) (.ret .d))
theorem Hk:f7 tab pq "_law_at" 65 4 2 bQ9=true:=by k_extra"#"
def LK:ISs:=(.cons (.asg 2 (.itk .a 0)) (.cons (.iff (.cmp .Eq .d (.z "number")) (.c1 (.ret (.itk .a 1))) .nil) (.c9 (.iff (.cmp .Eq .d (.z "paper")) (.c1 (.ret (.dg2 (.dict (.itk .b 1)) (.itk .a 1) (.n 0)))) .nil) (.iff (.inl .d (.c2 (.z "line") (.z "earlier"))) (.c2 (.asg 3 (.itm .b (.bin .Mult (.n 2) (.int (.cmp .Eq .d (.z "earlier")))))) (.ret (.sum (.slc .e (.e (.itk .a 1)) (.e (.bin .Add (.itk .a 1) (.n 1))))))) .nil) (.iff (.cmp .Eq .d (.z "table")) (.c1 (.ret (.call "_law_at" (.c2 (.itm (.itk .b 3) (.itk .a 1)) (.call "_law_value" (.c2 (.itk .a 2) .b)))))) .nil) (.iff (.cmp .Eq .d (.z "part")) (.c1 (.ret (.bin .FloorDiv (.bin .Mult (.call "_law_value" (.c2 (.itk .a 1) .b)) (.itk .a 2)) (.n 100)))) .nil) (.iff (.cmp .Eq .d (.z "choose")) (.c1 (.ret (.call "_law_value" (.c2 (.itm .a (.bin .Add (.n 2) (.int (.itm (.itk .b 4) (.itk .a 1))))) .b)))) .nil) (.asg 4 (.call "_law_value" (.c2 (.itk .a 1) .b))) (.asg 5 (.call "_law_value" (.c2 (.itk .a 2) .b))) (.iff (.cmp .Eq .d (.z "where")) (.c1 (.ret (.pick (.c2 (.call "_law_value" (.c2 (.itk .a 3) .b)) .g) (.int (.cmp .Gt .f (.n 0)))))) .nil) (.ret (.itm (.dik (.cons "add" (.bin .Add .f .g) (.cons "take" (.bin .Sub .f .g) (.cons "least" (.min .f .g) (.cons "most" (.max .f .g) .nil))))) .d)))))
theorem Kv:f7 tab pq "_law_value" 66 6 2 LK=true:=by k_extra"#"
def YF:ISs:=(.c4 (.asg 1 (.bin .Add (.bin .Add (.int (.isx .a "NoTable" [] ["NoYear","NoPaper","NoChoice","NoLine"])) (.int (.isx .a "NoForm" [] ["NoYear","NoPaper","NoChoice","NoLine"]))) (.int (.isx .a "NoRule" [] ["NoYear","NoPaper","NoChoice","NoLine"])))) (.asg 1 (.bin .Add (.bin .Add (.bin .Add .b (.int (.isx .a "Ring" [] ["NoYear","NoPaper","NoChoice","NoLine"]))) (.int (.isx .a "NoPaper" ["NoPaper"] ["NoYear","NoChoice","NoLine"]))) (.int (.isx .a "NoYear" ["NoYear"] ["NoPaper","NoChoice","NoLine"])))) (.asg 1 (.bin .Add (.bin .Add (.bin .Add .b (.int (.isx .a "NoLine" ["NoLine"] ["NoYear","NoPaper","NoChoice"]))) (.int (.isx .a "NoChoice" ["NoChoice"] ["NoYear","NoPaper","NoLine"]))) (.int (.isx .a "TooMany" [] ["NoYear","NoPaper","NoChoice","NoLine"])))) (.ret (.and (.cmp .Eq .b (.n 1)) (.isx .a "ValueError" ["NoYear","NoPaper","NoChoice","NoLine"] []))))
theorem Ir:f7 tab pq "_law_alone" 67 2 1 YF=true:=by k_extra"#"
def Hh:ISs:=(.c3 (.asg 1 (.L .nil)) (.whil (.cmp .Lt (.len .b) (.len .a)) (.c1 (.loopi .d (.r1 (.len .a)) (.c2 (.asgc 3 [1] (.e (.call "_law_named" (.c2 (.itm .a .d) (.z "line")))) (.t (.cmp .NotIn .a .b) .a)) (.iff (.and (.cmp .NotIn .d .b) (.cmp .Eq .e (.L .nil))) (.c1 (.expr (.append .b .d))) .nil))))) (.ret .b))
theorem ci5:f7 tab pq "_law_row" 68 4 1 Hh=true:=by k_extra"#"
def Yh:ISs:=(.c4 (.asg 4 (.L .nil)) (.asg 5 (.L .nil)) (.loopi .h (.r1 (.len .d)) (.c5 (.asg 7 (.bin .Mult (.L (.c1 (.n 0))) (.len .b))) (.asg 8 (.tup (.c5 .i (.itm .d .h) .g (.itk .a 1) (.itm .e .h)))) (.loop .l .b (.c1 (.seti .i .l (.call "_law_value" (.c2 (.itm (.itk .a 0) .l) .j))))) (.expr (.append .f .i)) (.asg 5 .i))) (.ret .f))
theorem Pq:f7 tab pq "_law_all" 69 10 4 Yh=true:=by k_extra"#"
def JQ:ISs:=(.c3 (.asg 2 (.L .nil)) (.loopi .e (.r1 (.len .a)) (.c1 (.loopi .f (.r1 (.len (.itm .a .e))) (.c1 (.iff (.cmp .NotEq (.itm (.itm .a .e) .f) (.itm (.itm .b .e) .f)) (.c1 (.expr (.append .d (.tup (.c2 .e .f))))) .nil))))) (.ret .d))
theorem bu5:f7 tab pq "_law_changed" 70 5 2 JQ=true:=by k_extra"#"
def bV1:ISs:=(.c5 (.iff (.cmp .Eq (.itk .b 0) (.z "put")) (.c1 (.ret (.mcall "File" "put" "File.put" .a (.c3 (.itk .b 1) (.itk .b 2) (.itk .b 3))))) .nil) (.iff (.cmp .Eq (.itk .b 0) (.z "take")) (.c1 (.ret (.mcall "File" "take" "File.take" .a (.c3 (.itk .b 1) (.itk .b 2) (.itk .b 3))))) .nil) (.iff (.cmp .Eq (.itk .b 0) (.z "value")) (.c1 (.ret (.mcall "File" "value" "File.value" .a (.c2 (.itk .b 1) (.itk .b 2))))) .nil) (.iff (.cmp .Eq (.itk .b 0) (.z "values")) (.c1 (.ret (.mcall "File" "values" "File.values" .a (.c1 (.itk .b 1))))) .nil) (.ret (.mcall "File" "told" "File.told" .a (.c1 (.itk .b 1)))))
theorem aq7:f7 tab pq "_law_told" 71 2 2 bV1=true:=by k_extra"#"
def br3:ISs:=(.c2 (.tri (.c1 (.expr (.call "_law_told" (.c2 .a .b)))) (.cons "NoYear" ["NoYear"] ["NoPaper","NoChoice","NoLine"] none (.c1 (.ret (.z "year"))) (.cons "NoPaper" ["NoPaper"] ["NoYear","NoChoice","NoLine"] none (.c1 (.ret (.z "paper"))) (.cons "NoChoice" ["NoChoice"] ["NoYear","NoPaper","NoLine"] none (.c1 (.ret (.z "choice"))) (.cons "NoLine" ["NoLine"] ["NoYear","NoPaper","NoChoice"] none (.c1 (.ret (.z "line"))) .nil))))) (.ret (.z "")))
theorem ce3:f7 tab pq "_law_tried" 72 2 2 br3=true:=by k_extra"#"
def HS:ISs:=(.c3 (.iff (.cmp .NotEq (.call "_law_tried" (.c2 .a .b)) .d) (.c1 (.ret (.k (.bool false)))) .nil) (.tri (.c1 (.expr (.call "_law_told" (.c2 .a .b)))) (.cons "FormError" ["NoYear","NoPaper","NoChoice","NoLine"] [] (some 3) (.c1 (.ret (.call "_law_alone" (.c1 .e)))) .nil)) (.ret (.k (.bool false))))
theorem bS4:f7 tab pq "_law_refused" 73 4 3 HS=true:=by k_extra"#"
abbrev Nm(g:G):Prop:=NmT pq tab g
theorem cy5:True:=by
 k_with"b"=>first | exact λN N N N N=>Ak λN=>rfl | exact λN N N N N=>FN λN N=>rfl | exact λN N N N N=>xm λN N N=>rfl | exact λN N N N N=>yh λN N N N=>rfl | exact λN N N N N=>En λN N N N N=>rfl | exact λN N N N N=>vs7 λN N N N N N N=>rfl
 k_with"d"=>first | exact p.dd (by decide) | exact aX (Nat.succ_pos _) p.d | exact aX (by lia) p.d | exact aj (by lia) p.d
 k_with"m"=>first | exact .head _ | exact .tail _ (.head _) | exact .tail _ (.tail _ (.head _)) | (simp;done)
 k_with"a"=>with_reducible assumption
 k_with"z"=>first | exact aj (by k_extra"a") (by k_extra"#") | exact z60 (by k_extra"a") (by k_extra"#") | exact zeq (by k_extra"a") (by k_extra"a") (by k_extra"#") | exact Zm (by k_extra"a") (by k_extra"a") (by k_extra"#") | exact zlt (by k_extra"a") (by k_extra"#") | exact bG (by k_extra"a") (by k_extra"#") | exact cL (by k_extra"a") (by k_extra"#") | exact uw (by k_extra"a") (by k_extra"a") (by k_extra"#") | exact .inl (by k_extra"#") | exact .inr (by k_extra"#") | exact .inr (uw (by k_extra"a") (by k_extra"a") (by k_extra"#")) | exact zmi (by k_extra"a") (by k_extra"a") (by k_extra"#") | exact zme (by k_extra"a") (by k_extra"a") (by k_extra"#") | exact zmn (by k_extra"a") (by k_extra"a") (by k_extra"#") | exact zix (by k_extra"a") (by k_extra"a") (by k_extra"a") (by k_extra"#") | exact zix (aQ.mp (by k_extra"a")) (by k_extra"a") (by k_extra"a") (by k_extra"#") | exact zix (by k_extra"a") rfl (by k_extra"a") (by k_extra"#") | exact zl3 (by k_extra"a") (by k_extra"a") (by k_extra"#") | exact gF (by k_extra"a") (by k_extra"#") | exact aj (cU (by k_extra"a")) (by k_extra"#") | exact zab (by k_extra"a") (by k_extra"a") (by k_extra"a") (by k_extra"#") | exact zac (by k_extra"a") (by k_extra"a") (by k_extra"a") (by k_extra"#")
 k_with"n"=>first | (with_reducible assumption) | (decide +kernel) | k_extra"z" | lia | (unfold s5;lia)
 k_with"h"=>repeat (with_reducible first | assumption | apply d6 | refine i4 ?_ (by assumption) | refine p8 ?_ (by first | assumption | (apply Ne.symm;assumption)))
 k_with"l"=>first | (with_unfolding_all decide) | (simp;done) | (simp only[bD,jN,aK];lia) | (simp;lia) | (refine aj bX9 ?_;simp;lia)
 k_with"i"=>first | k_extra"n" | k_extra"l" | ((first | refine .inl ?_ | refine .inr ?_);unfold s5;lia) | (refine⟨?_,?_,?_⟩<;>first | lia | k_extra"l")
 k_with"y"=>(intro kwh;first | (exact absurd rfl kwh) | (exact(nzc (by k_extra"a") kwh).elim) | ((try simp only[bD,jN] at kwh);first | (exfalso;lia) | (revert kwh;intro _)))
 k_with"s"=>first | (refine(?_:Ite _ _ _);with_reducible first | apply Yp | apply UL | apply bN3 | ((first | apply bs4 | apply bp0 | apply Qu | apply Yj)<;>k_extra"y") | ((first | apply WN | apply Qz)<;>intro kwh<;>first | (exact absurd rfl kwh) | (exact absurd kwh (by first | assumption | decide +kernel)) | (revert kwh;intro _)) | (apply bc4<;>intro _) | refine bh4 (by first | assumption | decide +kernel) ?_ | refine bg9 (by first | assumption | decide +kernel) ?_ | (apply RX<;>intro _)) | refine Req.mk (by k_extra"i") ?_ | (refine(?_:∀ _:Addr,(_:Option AObj)=none->_);intro _ _) | (refine(?_:d8 _ _ _ _ _ _ _ _);k_extra"c") | refine Look.mk _ (by k_extra"h") ?_ | refine InR.l (Look.mk _ (by k_extra"h") ?_) | refine InR.i _ rfl (LookI.mk _ (by k_extra"h") ?_) | refine InR.s _ rfl (LookS.mk _ (by k_extra"h") ?_) | refine ItR.l (LookR.mk _ (by k_extra"h") ?_) | refine ItR.l (LookR.scr _ (by assumption) ?_) | refine ItR.d (LookI.mk _ (by k_extra"h") ?_) | refine LookI.mk _ (by k_extra"h") ?_ | refine LookS.mk _ (by k_extra"h") ?_ | refine Hit.yes (by k_extra"#") ?_ | refine Hit.no (by k_extra"#") ?_ | refine PtR.l (Own.top ?_) | refine PtR.l (Own.mk _ (by k_extra"h") ?_) | refine PtR.d (OwnI.top ?_) | refine PtR.d (OwnI.mk _ (by k_extra"h") ?_) | refine OwnS.top ?_ | refine OwnS.mk _ (by k_extra"h") ?_ | refine EqT.nil rfl rfl (by k_extra"d") ?_ | refine LookR.mk _ (by k_extra"h") ?_ | refine LookR.scr _ (by assumption) ?_ | refine Own.top ?_ | refine Own.mk _ (by k_extra"h") ?_ | (refine bx3 ?_ ?_ ?_;lia;k_extra"l") | (with_reducible apply bz7) | (with_reducible apply Ih;k_extra"y")
 k_with"w"=>repeat' (k_extra"s")
 trivial
section
variable{g:G}{Q:V->Hp->Prop}
theorem F7(N:Nm g)(hD:1<=D){v:V}{y c:Int}(ok:Ok Z v)(h:Q (.bool (f9 v y c)) Z):d8 g D true "is_from" [v,.int y,.int c] Z Q X:=by
 refine bd N bG5 (by k_extra"b") hD λcx p=>?_
 cases v with
 | int n=>
  k_extra"w";all_goals exact p.h (by simpa[f9, *] using h)
 | ref a=>
  refine d4 (ok a rfl) λl hl=>?_
  k_extra"w";all_goals exact p.h h
 | _=>
  k_extra"ap"
open Internal renaming F7->y1
theorem cy4:True:=by
 k_with"c"=>refine y1 p.N (by k_extra"d") (by first | assumption | (intro _ e;cases e)) ?_
 trivial
theorem U2(N:Nm g)(hD:2<=D){v:V}(ok:Ok Z v)(h:Q (.bool (f9 v (0-1000000000) 1000000000)) Z):d8 g D true "is_number" [v] Z Q X:=by
 refine bd N Vr (by k_extra"b") hD λcx p=>?_
 k_extra"ap"
open Internal renaming U2->y2
theorem cy9:True:=by
 k_with"c"=>refine y2 p.N (by k_extra"d") (by first | assumption | (intro _ e;cases e)) ?_
 trivial
theorem uJ(N:Nm g)(hD:1<=D){v:V}(ok:Cld Z v)(h:Q (.bool (x4 v)) Z):d8 g D true "is_word" [v] Z Q X:=by
 refine bd N Hx (by k_extra"b") hD λcx p=>?_
 cases v with
 | str x=>
  have hz:=ok.strz;k_extra"w"
  ·refine CLoop.g p (λw F u=>Z=u/\∃ done L,x.cps.toList=done++L/\w=L.map (λc=>.str ⟨#[c]⟩)/\F=(done.map λc=>Txt.contains G9 ⟨#[c]⟩).map .bool) ?_ ⟨rfl,[],_,rfl,rfl,rfl⟩ (λcx p v l F E I=>?_) ?_
   ·rw[ud];exact aj hz (by decide)
   ·rintro _ y;obtain⟨rfl,done,L,e,A,rfl⟩:=y
    refine⟨trivial,?_⟩;cases L with
    | nil=>cases A
    | cons c L=>
     cases A;k_extra"w";exact E ⟨rfl,done++[c],L,by simp[e],rfl,by simp;rfl⟩
   ·rintro F _ y;obtain⟨rfl,done,L,e,A,rfl⟩:=y
    refine⟨trivial,λa H=>?_⟩
    cases L with
    | cons=>cases A
    | nil=>
     k_extra"w";refine AllB.mk _ (d6 _ _ _) (p.r (Sub.upd H) ?_);have C:x.cps.toList=done:=by simpa using e
     have:x4 (.str x)=(done.map λc=>Txt.contains G9 ⟨#[c]⟩).all id:=by
      show m8 x=_;unfold m8;rw[C,jC];have Za:decide (1<=x.length)=true:=by simp;exact qM (by assumption)
      have S:decide (x.length<=8)=true:=by simp;exact bj.mp (by assumption)
      simp only[Za,S,jg];rfl
     rw[<- this];exact h
  all_goals
   have e:x4 (.str x)=false:=by
    unfold x4 m8;have:¬ (1<=x.length)∨¬ (x.length<=8):=by lia
    rcases this with q | q<;>simp[q]
   rw[e] at h;exact p.h h
 | ref a=>
  k_extra"cr"
  k_extra"w";all_goals exact p.h h
 | _=>
  k_extra"ap"
end
section
variable{g:G}{Q:V->Hp->Prop}
set_option tactic.hygienic true in
theorem Fx(N:Nm g)(hD:1<=D){w:Str}(hz:args.length<=100)(c:w = "part"->1<=args.length)(h:∀ b,Z b=none->Q (.ref b) (upd Z b (.L (g9 w args)))):d8 g D true "within" [.tup (.str w::args)] Z Q X:=by
 refine bd N PX (by k_extra"b") hD λcx p=>?_
 k_extra"w"
 ·rename_i hl b Y
  refine p.h ?_;have e:g9 w args=[]:=if_pos hl;rw[<- e];exact h b Y
 ·rename_i hl Za
  subst Za;cases args with
  | nil=>have:=c rfl;simp at this
  | cons x l=>
   k_extra"bR";refine p.h ?_;have e:=K2 (x::l);rw[<- show g9 "part" (x::l)=[x] from e];exact h b Y
 ·rename_i hl M Za b Y
  refine p.h ?_;subst Za;rw[zG,<- K1];exact h b Y
 ·rename_i hl M Za u b Y
  refine p.h ?_;subst u;rw[zG,<- D0];exact h b Y
 ·rename_i hl M Za u b Y
  refine p.h ?_;have e:g9 w args=args:=by
   unfold g9;rw[if_neg (by rw[show qd w=false from hl];decide),if_neg (by simpa using M),if_neg (by simp[Za,u])]
  rw[wK,<- e];exact h b Y
open Internal renaming U2->y3,F7->y4,uJ->y5
theorem cy2:True:=by
 k_with"c"=>first | refine y3 p.N (by k_extra"d") (Cld.ok (by assumption)) ?_ | refine y4 p.N (by k_extra"d") (Cld.ok (by assumption)) ?_ | refine y5 p.N (by k_extra"d") (by assumption) ?_
 trivial
theorem V8(N:Nm g)(hD:3<=D){w:Str}{z:Lim}(Za:w≠aa "number")(S:w≠aa "paper")(L:w≠aa "line")(c:w≠aa "earlier")(E:w≠aa "part")(P:w≠aa "table")(q:w≠aa "choose")(h:Q (.bool true) Z):d8 g D true "is_fitting" [.tup (.str w::args),.int z.L,.int z.T,.int z.C] Z Q X:=by
 k_extra"D"
 k_extra"w";exact p.h h
theorem JT(N:Nm g)(hD:3<=D){w:Str}{z:Lim}(hc:Cld Z (.tup (.str w::args)))(hs:siz w=some ((args.length:Int)+1))(h:Q (.bool (fit z w args)) Z):d8 g D true "is_fitting" [.tup (.str w::args),.int z.L,.int z.T,.int z.C] Z Q X:=by
 refine d5 hc.tups λhz hx=>?_
 have hm:=Y1 hs;k_extra"a7"
 k_extra"k"
 ·k_extra"ae"
  k_extra"al"
  k_extra"D"
  k_extra"w";exact p.h (by rw[pW] at h;exact h)
 ·k_extra"ae"
  k_extra"al"
  k_extra"D"
  k_extra"w";exact p.h (by rw[oH] at h;exact h)
 ·k_extra"ae"
  k_extra"al"
  k_extra"D"
  k_extra"w";exact p.h (by rw[X6] at h;exact h)
 ·k_extra"ae"
  k_extra"al"
  k_extra"D"
  k_extra"w";exact p.h (by rw[pI] at h;exact h)
 ·exact V8 N hD (by k_extra"#") (by k_extra"#") (by k_extra"#") (by k_extra"#") (by k_extra"#") (by k_extra"#") (by k_extra"#") (by rw[Dk] at h;exact h)
 ·exact V8 N hD (by k_extra"#") (by k_extra"#") (by k_extra"#") (by k_extra"#") (by k_extra"#") (by k_extra"#") (by k_extra"#") (by rw[xq] at h;exact h)
 ·exact V8 N hD (by k_extra"#") (by k_extra"#") (by k_extra"#") (by k_extra"#") (by k_extra"#") (by k_extra"#") (by k_extra"#") (by rw[wL] at h;exact h)
 ·exact V8 N hD (by k_extra"#") (by k_extra"#") (by k_extra"#") (by k_extra"#") (by k_extra"#") (by k_extra"#") (by k_extra"#") (by rw[xn] at h;exact h)
 ·k_extra"cQ"
  have kx:=hx y (by k_extra"m")
  k_extra"D"
  k_extra"w";exact p.h (by rw[oY] at h;exact h)
 ·k_extra"cQ"
  k_extra"al"
  k_extra"D"
  k_extra"w";exact p.h (by rw[pD] at h;exact h)
 ·exact V8 N hD (by k_extra"#") (by k_extra"#") (by k_extra"#") (by k_extra"#") (by k_extra"#") (by k_extra"#") (by k_extra"#") (by rw[qU] at h;exact h)
 ·obtain⟨x,y,t,rfl⟩:=Q6 (l:=args) (by exact nY hn)
  k_extra"al"
  k_extra"D"
  k_extra"w";exact p.h (by rw[Y2] at h;exact h)
end
section
variable{g:G}
open Internal renaming JT->y6,Fx->y7
theorem cz0:True:=by
 k_with"c"=>first | refine y6 p.N (by k_extra"d") (by assumption) (by assumption) ?_ | (refine y7 p.N (by k_extra"d") (by assumption) (by assumption) ?_;intro _ _)
 trivial
set_option tactic.hygienic true in
theorem Xk{z:Lim}:∀ (n:Nat) {g:G} {D:Nat} {r:Int} {v:V} {Z:Hp} {Q:V->Hp->Prop} {X:Str->Hp->Prop},Nm g->n+4<=D->r=(n:Int)->Cld Z v->Q (.bool (ok z n v)) Z->d8 g D true "is_one" [v,.int r,.int z.L,.int z.T,.int z.C] Z Q X:=by
 intro n;induction n with
 | zero=>
  k_extra"bk"
  k_extra"w";exact p.h h
 | succ n L=>
  k_extra"bk"
  cases v with
  | tup l=>
   refine d5 hc.tups λhz hx=>?_
   cases l with
   | nil=>
    k_extra"w";exact p.h h
   | cons x C=>
    k_extra"al"
    have Ja:C.length<=100:=by simp at hz;exact gM hz
    cases x with
    | str w=>
     k_extra"w";cases E:siz w with
     | none=>
      refine DGet.none E ?_;k_extra"w";refine p.h ?_;have e:ok z (n+1) (.tup (.str w::C))=false:=by rw[P2,E];rfl
      rw[e] at h;exact h
     | some k=>
      refine DGet.some k E ?_;k_extra"w"
      ·rename_i K
       refine p.h ?_;have e:ok z (n+1) (.tup (.str w::C))=false:=by
        have:¬ (k=(C.length:Int)+1):=λq=>K (by simp[q])
        rw[P2,E,show(some k==some ((C.length:Int)+1))=false from beq_eq_false_iff_ne.mpr λq=>this (d7 q)];rfl
       rw[e] at h;exact h
      ·rename_i K
       have A:siz w=some ((C.length:Int)+1):=by rw[E,K];simp
       have M:w = "part"->1<=C.length:=λe=>by
        subst e;rw[FQ] at A;injection A with A;lia
       k_extra"w"
       ·rename_i T b Y
        refine LoopR.tmp Y (Loop.g p (λy F u=>Z=u/\(g9 w C).all (ok z n)=y.all (ok z n)/\(∀ x∈y,Cld Z x)/\∃ o,F=[some (.tup (.str w::C)),some (.int r),some (.int z.L),some (.int z.T),some (.int z.C),o]) ⟨rfl,rfl,λx c=>hx x (bV _ (Gk c)),none,rfl⟩ (λcx p I v y H=>?_) ?_)
        ·k_extra"dn"
         k_extra"X";have O:=h2 v (by k_extra"m")
         k_extra"w";refine L p.N (aj (aG (bL n 3).symm) p.d) (by k_extra"n") O ?_
         k_extra"w"
         ·rename_i S
          exact H ⟨rfl,by rw[h1,jh,S,jg],λx hx=>h2 x (.tail _ hx),_,rfl⟩
         ·rename_i S
          refine p.h ?_;have e:ok z (n+1) (.tup (.str w::C))=false:=by rw[P2,h1,jh,S,gJ,gb]
          rw[e] at h;exact h
        ·k_extra"dn"
         k_extra"bf";have e:ok z (n+1) (.tup (.str w::C))=true:=by rw[P2,A,T,h1,beq_self_eq_true];rfl
         rw[e] at h;exact h
       ·rename_i T
        refine p.h ?_;have e:ok z (n+1) (.tup (.str w::C))=false:=by rw[P2,T,gb,gJ]
        rw[e] at h;exact h
    | ref a=>
     refine d4 (kx.ok a rfl) λl hl=>?_
     k_extra"w";all_goals exact p.h h
    | _=>
     k_extra"w";all_goals exact p.h h
  | ref a=>
   refine d4 (hc.ok a rfl) λl hl=>?_
   k_extra"w";all_goals exact p.h h
  | _=>
   k_extra"ap"
end
theorem cn2{w:Str}{n:Nat}(h:siz w=some ((n:Int)+1)):n<=100/\1<=n:=by
 have:2<=(n:Int)+1/\(n:Int)+1<=4:=(show ∀ p∈szs,2<=p.2/\p.2<=4 by k_extra"#") _ (Y1 h)
 lia
section
variable{g:G}
theorem Js(N:Nm g)(hD:13<=D){z:Lim}{v:V}{Q:V->Hp->Prop}(O:Cld Z v)(h:Q (.bool (ok z 8 v)) Z):d8 g D true "is_rule" [v,.int z.L,.int z.T,.int z.C] Z Q X:=by
 refine bd N Vw (by k_extra"b") hD λcx p=>?_
 k_extra"w";exact Xk 8 p.N (p.dd (by decide)) rfl O (p.h h)
open Internal renaming Fx->y8
theorem cz4:True:=by
 k_with"c"=>(refine y8 p.N (by k_extra"d") (by assumption) (by assumption) ?_;intro _ _)
 trivial
set_option tactic.hygienic true in
theorem GX{z:Lim}{u:Str}:∀ (n:Nat) {g:G} {D:Nat} {v:V} {Z:Hp} {Q:V->Hp->Prop} {X:Str->Hp->Prop},Nm g->n+2<=D->ok z n v=true->(g6 n v u).length<=100->(∀ b,Z b=none->Q (.ref b) (upd Z b (.L (g6 n v u))))->d8 g D true "gathered" [v,.str u] Z Q X:=by
 intro n;induction n with
 | zero=>intro g D v Z Q X N _ K;exact ff K
 | succ n ih=>
  intro g D v Z Q X N hD K hl h;refine k9 (N5 K) λw C Ja=>?_;subst Ja
  refine F9 (mX K) λm hm hs _ R=>?_
  obtain rfl:n=m:=by exact lB hm
  refine d5 (cn2 hs) λhz Za=>?_
  have hp:w = "part"->1<=C.length:=λ_=>Za
  refine bd N Mx (by k_extra"b") hD λcx p=>?_
  intro b hb;have A:Cp.w true l6 cx [] [some (.tup (.str w::C)),some (.str u),some (.ref b),none] (upd Z b (.L (if w==u then[arg C 0] else[]))):=by
   k_extra"w";rename_i t ht;refine LoopR.tmp ht (Loop.g p (λy T U=>∃ c L o,Z c=none/\U=upd Z c (.L L)/\L++(y.map λr=>g6 n r u).flatten=g6 (n+1) (.tup (.str w::C)) u/\(∀ x∈y,ok z n x=true)/\T=[some (.tup (.str w::C)),some (.str u),some (.ref c),o]) ⟨b,_,none,hb,rfl,by rw[I8],R,rfl⟩ (λcx p hB v y Y=>?_) ?_)
   ·k_extra"bE"
    refine⟨trivial,?_⟩;have F:L.length+(g6 n v u).length<=100:=by
     have:=congrArg List.length hL;simp only[eF,gP,aK] at this
     lia
    k_extra"w";refine ih p.N (aj (aG (bL n 1).symm) p.d) (E v (by k_extra"m")) (by k_extra"n") λe M=>?_
    have hec:e≠c:=λq=>by rw[q,d6] at M;cases M
    k_extra"w";rename_i f hf;refine d5 (j3 hf) λhfe P=>d5 (j3 P) λhfc H=>?_
    exact Drop.mk (E9 ((Sub.upd O).trans (Sub.upd M))) (Y ⟨f,_,_,H,rfl,by rw[<- hL];simp,λx hx=>E x (.tail _ hx),rfl⟩)
   ·k_extra"bE"
    k_extra"bf";have e:L=g6 (n+1) (.tup (.str w::C)) u:=by rw[<- hL];simp
    rw[e];exact h c O
  cases C with
  | nil=>simp at Za
  | cons x C=>
   k_extra"w"
   ·rename_i e
    refine Stop.mk ?_;rw[if_pos (by simp[e])] at A;exact A
   ·rename_i e
    refine Stop.mk ?_;rw[if_neg (by simp[e])] at A;exact A
theorem KY(N:Nm g){z:Lim}{u:Str}{n:Nat}(hD:n+3<=D){v:V}{Q:V->Hp->Prop}(K:ok z n v=true){P:List Int}(q:g6 n v u=P.map .int)(hl:P.length<64)
  (h:∀ b (L:List Int),Z b=none->L.length<=P.length->(∀ y,y∈L↔y∈P)->Q (.ref b) (upd Z b (.L (L.map .int)))):d8 g D true "named" [v,.str u] Z Q X:=by
 refine bd N KR (by k_extra"b") hD λcx p=>?_
 have x:(g6 n v u).length<64:=by rw[q,aq];exact hl
 k_extra"w";refine GX n p.N p.d K (by k_extra"n") λb Y=>SSet.mk P (by rw[<- q];exact d6 _ _ _) hl λc L O w A=>?_
 k_extra"w";exact p.r (E9 (Sub.upd Y)) (h c L (j3 O).2 w A)
end
section
variable{g:G}{Q:V->Hp->Prop}
theorem wW(N:Nm g)(hD:1<=D){a:Addr}{P:List Int}{k:Int}(c:Scr g a P)(hl:P.length<=100)(M:0<=k)(Za:k<100)(h:∀ x,Q (.int x) Z):d8 g D true "_law_cell_at" [.ref a,.int k] Z Q X:=by
 refine bd N Xj (by k_extra"b") hD λcx p=>?_
 have c:Scr cx.g a P:=p.e▸c;k_extra"w"
 ·refine Idx.mk M (by assumption) (by k_extra"n") λx e=>?_
  rw[aB] at e;refine a7 (aR.mp e) λy j Ja=>?_;subst Ja
  exact p.h (h _)
 ·exact p.h (h _)
theorem Ec(N:Nm g)(hD:1<=D){c k:Int}(K:s5 k)(h:∀ x,0<=x->x<2147483647->Q (.int x) Z):d8 g D true "_law_mixed" [.int c,.int k] Z Q X:=by
 refine bd N cs6 (by k_extra"b") hD λcx p=>?_
 k_extra"w";exact p.h (h _ (dh _ (by decide)) (dH _ (by decide)))
theorem P9(N:Nm g)(hD:1<=D){n k:Int}(M:0<=n)(Za:n<2147483647)(K:0<k)(C:k<2 ^ 60)(h:∀ r c,0<=r->r<k->0<=c->c<2147483647->Q (.int r) (upd Z st (.L [.int c]))) :
  d8 g D true "_law_next" [.ref st,.int k] (upd Z st (.L [.int n])) Q X:=by
 refine bd N Yw (by k_extra"b") hD λcx p=>?_
 k_extra"w";exact p.h (h _ _ (dh _ (iM K)) (dH _ K) (dh _ (by decide)) (dH _ (by decide)))
open Internal renaming P9->y9
theorem cz5:True:=by
 k_with"c"=>(refine y9 p.N (by k_extra"d") (by k_extra"n") (by k_extra"n") (by k_extra"n") (by k_extra"n") ?_;intro _ _ _ _ _ _)
 trivial
theorem Ew(N:Nm g)(hD:2<=D){n:Int}(M:0<=n)(Za:n<2147483647)(h:∀ r c,-1000000000<=r->r<=1000000000->0<=c->c<2147483647->Q (.int r) (upd Z st (.L [.int c]))) :
  d8 g D true "_law_number" [.ref st] (upd Z st (.L [.int n])) Q X:=by
 refine bd N Rn (by k_extra"b") hD λcx p=>?_
 k_extra"w";all_goals exact p.h (h _ _ (by k_extra"n") (by k_extra"n") (by k_extra"n") (by k_extra"n"))
theorem Zh(N:Nm g)(hD:1<=D){b:Addr}{y:List V}{n k:Int}(T:Z b=none)(L:b≠st)(M:0<=n)(Za:n<2147483647)(K:0<k)(C:k<2 ^ 60)(h:∀ r q,0<=r->r<k->0<=q->q<2147483647->Q (.int r) (upd (upd Z st (.L [.int q])) b (.L y))) :
  d8 g D true "_law_next" [.ref st,.int k] (upd (upd Z st (.L [.int n])) b (.L y)) Q X:=
 ((P9 (Q:=λv u=>∃ r q,v=.int r/\0<=r/\r<k/\0<=q/\q<2147483647/\u=upd Z st (.L [.int q])) N hD M Za K C λr q a b c e=>⟨r,q,rfl,a,b,c,e,rfl⟩).under (WR T L)).mono (by
  rintro _ _ w;obtain⟨_,rfl,_,r,q,rfl,a,b,c,e,rfl⟩:=w;exact h r q a b c e)
theorem H1(N:Nm g)(hD:1<=D){n k:Int}(hst:Z st=some (.L [.int n]))(M:0<=n)(Za:n<2147483647)(K:0<k)(C:k<2 ^ 60)(h:∀ r c,0<=r->r<k->0<=c->c<2147483647->Q (.int r) (upd Z st (.L [.int c]))) :
  d8 g D true "_law_next" [.ref st,.int k] Z Q X:=by
 have:=P9 (Z:=Z) (Q:=Q) (X:=X) N hD (st:=st) M Za K C h;k_extra"bj"
end
theorem Uo{a:Int}(M:0<=a)(c:a<8)(e:L<=8-(a+1).toNat):a.toNat+1+L<=8:=by
 refine d4 (bM M) λk Ja=>?_;subst Ja
 exact Nat.add_le_of_le_sub' (aQ.mp c) e
section
variable{g:G}{Q:V->Hp->Prop}
open Internal renaming Zh->y10,P9->y11
theorem cz6:True:=by
 k_with"c"=>first | (refine y10 p.N (by k_extra"d") (by assumption) (by assumption) (by k_extra"n") (by k_extra"n") (by k_extra"n") (by k_extra"n") ?_;intro _ _ _ _ _ _) | (refine y11 p.N (by k_extra"d") (by k_extra"n") (by k_extra"n") (by k_extra"n") (by k_extra"n") ?_;intro _ _ _ _ _ _)
 trivial
set_option tactic.hygienic true in
theorem PB(N:Nm g)(hD:2<=D)(M:0<=n)(Za:n<2147483647)(h:∀ b (ws:List Str) I,b≠st->Z b=none->5<=ws.length->ws.length<=8->(∀ x∈ws,m8 x=true)->0<=I->I<2147483647->Q (.ref b) (upd (upd Z st (.L [.int I])) b (.L (ws.map .str)))) :
  d8 g D true "_law_words" [.ref st] (upd Z st (.L [.int n])) Q X:=by
 have h26:(aa "abcdefghijklmnopqrstuvwxyz").length=26:=by k_extra"#"
 refine bd N cv9 (by k_extra"b") hD λcx p=>?_
 k_extra"w";refine x3 p (λi w u=>∃ (q:Str) (n:Int) (k:Option V),Let q/\q.length=i/\0<=n/\n<2147483647/\u=upd Z st (.L [.int n])/\w=[some (.ref st),some (.str (aa "abcdefghijklmnopqrstuvwxyz")),some (.str q),k,none,none]) ⟨aa "",n,none,Let.nil,rfl,M,Za,rfl,rfl⟩ (λcx p hB i hi R=>?_) ?_
 ·rintro _ _ C;refine Ce C λq n k P A hn T Ja K=>?_;clear C;subst Ja;subst K
  k_extra"w";k_extra"bg"
  have hc1:(⟨#[c]⟩:Str).length=1:=rfl;k_extra"w";exact R ⟨_,_,_,P.app (wU hc),by rw[uI,A,hc1],by assumption,by assumption,rfl,rfl⟩
 clear M Za n;rintro _ _ C;refine Ce C λq n k P A M Za Ja K=>?_;clear C;subst Ja;subst K
 have A:q.length=8:=A;k_extra"w";rename_i r I _ _ _ _ b hb;refine d5 (j3 hb) λhne Y=>?_
 have O:∀ x∈[sls none (some (1+r)) q,q],m8 x=true:=by
  intro x hx;k_extra"au"
  rcases hx with rfl | rfl
  ·have:=Dy (x:=q) (j:=1+r) (by k_extra"n") (by k_extra"n")
   exact(P.sls _ _).word (by rw[this];exact wJ (by assumption)) (by rw[this];lia)
  ·exact P.word (by k_extra"n") (by k_extra"n")
 refine x3 p (λi w u=>∃ (ws:List Str) (n:Int) (k a:Option V),ws.length=2+i/\(∀ x∈ws,m8 x=true)/\0<=n/\n<2147483647/\u=upd (upd Z st (.L [.int n])) b (.L (ws.map .str))/\w=[some (.ref st),some (.str (aa "abcdefghijklmnopqrstuvwxyz")),some (.str q),k,some (.ref b),a]) ⟨[sls none (some (1+r)) q,q],I,k,none,rfl,O,by assumption,by assumption,rfl,rfl⟩ (λcx p hB i hi R=>?_) ?_
 ·k_extra"bl"
  k_extra"w";rename_i at' n1 S U _ _ r2 n2 _ _ _ _;have e1:=Dy (x:=q) (j:=at') (by k_extra"n") (by k_extra"n")
  k_extra"bg"
  have hc1:(⟨#[c]⟩:Str).length=1:=rfl;have hl1:=uI (sls none (some at') q) ⟨#[c]⟩;k_extra"w";rename_i r3 n3 _ _ _ _;have y:(sls none (some at') q++⟨#[c]⟩).length=at'.toNat+1:=by rw[hl1,e1,hc1]
  have w3:=Uo S U (A▸(PT (x:=q) (i:=at'+1) (j:=1+at'+r3) (by k_extra"n") (by k_extra"n")))
  refine Req.mk (by rw[y];exact aj w3 (by decide)) ?_
  have E:=uI (sls none (some at') q++⟨#[c]⟩) (sls (some (at'+1)) (some (1+at'+r3)) q);rw[y] at E;have hz:(ws.map V.str).length<=10000:=by rw[aq];lia
  k_extra"w";refine R ⟨ws++[_],_,_,_,?_,?_,by assumption,by assumption,by rw[aN];rfl,rfl⟩
  ·rw[aK,hl];simp;lia
  ·intro x hx
   rcases aH.mp hx with hx | hx
   ·exact O x hx
   ·k_extra"au"
    subst hx;exact(((P.sls _ _).app (wU hc)).app (P.sls _ _)).word (by rw[E];exact aj (aZ 1 _) (cC _ _)) (by rw[E];exact w3)
 ·k_extra"bl"
  have hl:ws.length=5:=hl;k_extra"w";rename_i t ht;refine d5 (j3 ht) λht1 ht2=>d5 (j3 ht2) λht3 ht4=>?_
  refine H1 p.N (p.dd (by decide)) (n:=n) (by k_extra"h") M Za (by k_extra"n") (by k_extra"n") λr I hr hr' hn T=>Look.mk _ (by k_extra"h") ?_
  refine Req.mk (by decide) (λe he=>?_)
  have hs:slc none (some r) [V.str (aa "line"),V.str (aa "paper"),V.str (aa "add")]=([(aa "line"),aa "paper",aa "add"].take r.toNat).map V.str:=by
   rw[xU hr,List.map_take];rfl
  rw[hs];have hlt:([(aa "line"),aa "paper",aa "add"].take r.toNat).length<=3:=by rw[eZ];exact eV _ _
  refine Look.mk (ws.map .str) (i4 (by k_extra"h") he) (Look.mk _ (d6 _ _ _) ?_)
  refine Req.mk (by simp only[aq];lia) ?_
  refine λf hf=>?_
  rw[<- aN];k_extra"w";refine d5 (j3 hf) λhf1 hf2=>d5 (j3 hf2) λhf3 hf4=>?_
  refine d5 (j3 hf4) λhf5 hf6=>d5 (j3 hf6) λhf7 hf8=>?_
  refine d5 (j3 hf8) λhf9 L=>p.r (E9 (Sub.trans (bt2 λc o hc H=>?_) (Sub.upd he))) (h f (ws++[(aa "line"),aa "paper",aa "add"].take r.toNat) I hf3 L (by simp;exact YC (by assumption)) (by simp only[aK];lia) ?_ hn T)
  ·rw[e8 _ _ (j7 H ht4),e8 _ _ (j7 H Y),e8 _ _ hc];exact H
  ·intro x hx
   rcases aH.mp hx with hx | hx
   ·exact O x hx
   ·have:=eG hx
    simp only[au,bw,or_false] at this
    rcases this with rfl | rfl | rfl
    ·exact Nj
    ·exact JZ
    ·exact Rq
end
section
variable{g:G}{Q:V->Hp->Prop}
open Internal renaming P9->y12,Ew->y13
theorem cz2:True:=by
 k_with"c"=>first | (refine y12 p.N (by k_extra"d") (by k_extra"n") (by k_extra"n") (by k_extra"n") (by k_extra"n") ?_;intro _ _ _ _ _ _) | (refine y13 p.N (by k_extra"d") (by k_extra"n") (by k_extra"n") ?_;intro _ _ _ _ _ _)
 trivial
structure Src(Z:Hp)(st sl wl:Addr)(z:Lim)(seen:List Int)(ws:List Str):Prop where
 hs:Z sl=some (.L (seen.map .int))
 sne:sl≠st
 hw:Z wl=some (.L (ws.map .str))
 wne:wl≠st
 sz:(seen.map V.int).length<=100
 wz:(ws.map V.str).length<=100
 w1:1<=(ws.map V.str).length
 L:1<=z.L
 L':z.L<=100
 T:0<=z.T
 T':z.T<=100
 C:0<=z.C
 C':z.C<=100
theorem Lx(N:Nm g)(hD:3<=D)(S:Src Z st u w z seen ws)(M:0<=n)(Za:n<2147483647)
  (h:∀ r q,GR z (·∈seen) (·∈ws) 1 r->0<=q->q<2147483647->Q r (upd Z st (.L [.int q]))) :
  d8 g D true "_law_plain" [.ref st,.ref u,.tup [.int z.L,.int z.T,.int z.C],.ref w] (upd Z st (.L [.int n])) Q X:=by
 obtain⟨Ja,y,K,A,sz,c,O,L,H,T,I,C,E⟩:=S;refine bd N Ln (by k_extra"b") hD λcx p=>?_
 k_extra"w"
 ·exact p.h (h _ _ (.num (by k_extra"n") (by k_extra"n")) (by assumption) (by assumption))
 ·k_extra"P"
  subst qa;k_extra"w";exact p.h (h _ _ (.line hi) (by assumption) (by assumption))
 ·k_extra"P"
  k_extra"bh"
 ·exact p.h (h _ _ (.earlier (by k_extra"n") (by k_extra"n")) (by assumption) (by assumption))
 ·k_extra"P"
  k_extra"bh"
theorem wC(c:e=((k+1+1:Nat):Int)):min (e-1) 2=((min (k+1) 2-1+1:Nat):Int):=by
 subst c;cases k with
 | zero=>decide
 | succ k=>
  rw[ig (aZ 2 k),Int.min_eq_right (by lia)];rfl
theorem V4:min (k+1) 2-1<k+1:=fP (Nat.sub_le_sub_right (cB _ _) 1)
theorem BR(h:k+1<8):min (k+1) 2-1<8:=eX V4 h
theorem uY:min (k+1) 2-1+1=min (k+1) 2:=jd (Nat.le_min.mpr ⟨aZ 1 k,by decide⟩)
theorem yD(h:k+1+4<=d):min (k+1) 2-1+5<=d:=aj (cQ (cz V4) 5) (aj (aG (bL k 4).symm) h)
set_option tactic.hygienic true in
theorem Im(S:Src Z st H P z seen ws):∀ (m:Nat) {g:G} {n e:Int} {D:Nat} {Q:V->Hp->Prop} {X:Str->Hp->Prop},Nm g->m+5<=D->e=((m+1:Nat):Int)->m<8->0<=n->n<2147483647->
  (∀ r n',GR z (·∈seen) (·∈ws) (m+1) r->0<=n'->n'<2147483647->Q r (upd Z st (.L [.int n'])))->
  d8 g D true "_law_rule" [.ref st,.int e,.ref H,.tup [.int z.L,.int z.T,.int z.C],.ref P] (upd Z st (.L [.int n])) Q X:=by
 intro m;induction m using iQ with
 | ind m ih=>
 intro g n e D Q X N hD he hm M Za h;have R:=S.T;have x:=S.T';have L:=S.C;have u:=S.C';refine bd N Jj (by k_extra"b") hD λcx p=>?_
 cases m with
 | zero=>
  k_extra"w";k_extra"a8"
  k_extra"w";exact p.h (h _ _ hr hn hn')
 | succ k=>
  k_extra"w"
  ·k_extra"a8"
   k_extra"w";exact p.h (h _ _ (hr.le (by k_extra"n")) hn hn')
  ·rename_i C n1 U O I c T K
   refine ih k (by k_extra"n") p.N (aj (aG (bL k 4).symm) p.d) (by k_extra"n") (by k_extra"n") I c λone n2 hone Ja E=>?_
   k_extra"w"
   ·k_extra"R"
   ·k_extra"R"
   ·k_extra"R"
   ·exact p.h (h _ _ (.table hone (by k_extra"n") (by k_extra"n")) (by assumption) (by assumption))
   ·exact p.h (h _ _ (hone.le (by k_extra"n")) (by assumption) (by assumption))
   ·rename_i q Y
    refine ih (min (k+1) 2-1) V4 p.N (yD p.d) (wC he) (BR hm) Ja E λw n3 ho y A=>?_
    rw[uY] at ho;k_extra"w"
    ·k_extra"r"
    ·k_extra"r"
    ·k_extra"r"
    ·k_extra"r"
    ·k_extra"ai"
     rw[uY] at ht;k_extra"w";exact p.h (h _ _ (.wherr ho hone ht) (by assumption) (by assumption))
    ·exact p.h (h _ _ (.chor (by k_extra"n") (by k_extra"n") ho hone) (by assumption) (by assumption))
    ·k_extra"t"
    ·k_extra"t"
    ·k_extra"t"
    ·k_extra"t"
    ·k_extra"t"
    ·k_extra"ai"
     rw[uY] at ht;k_extra"w";exact p.h (h _ _ (.wherl hone ho ht) (by assumption) (by assumption))
    ·exact p.h (h _ _ (.chol (by k_extra"n") (by k_extra"n") hone ho) (by assumption) (by assumption))
    ·k_extra"r"
end
structure NmP(Gs:List V)(gt:V->List V)(args F rest:List V):Prop where
 nd:F.Nodup
 sub:∀ y∈F,y∈Gs
 all:∀ y∈Gs,y∈F∨∃ x∈rest,(∃ l,x=.tup l)/\y∈gt x
 mem:∀ x∈rest,x∈args
section
variable{Gs F rest L2:List V}{gt:V->List V}{v:V}
theorem NmP.skip(p:NmP Gs gt args F (v::rest))(R:¬∃ l,v=.tup l):NmP Gs gt args F rest:=
 ⟨p.nd,p.sub,λy I=>(p.all y I).imp id λq=>by
  refine f6 q λx hx c q=>?_
  k_extra"aH"
  ·exact absurd c R
  ·exact⟨x,hx,c,q⟩,λx hx=>p.mem x (.tail _ hx)⟩
theorem NmP.put(p:NmP Gs gt args F (v::rest))(C:L2.Nodup)(w:∀ y,y∈L2↔y∈gt v)(E:∀ y∈gt v,y∈Gs)(M:∀ y∈Gs,q9 y):NmP Gs gt args (F++L2.filter λy=>!E5 F y) rest:=by
 have c:∀ y∈F,q9 y:=λy hy=>M y (p.sub y hy)
 refine⟨cA.mpr ⟨p.nd,C.sublist lJ,λx hx y hy e=>?_⟩,λy hy=>?_,λy hy=>?_,λx hx=>p.mem x (.tail _ hx)⟩
 ·subst e
  have S:=(dD.mp hy).2;rw[(qY c (c x hx)).mpr hx] at S;cases S
 ·rcases aH.mp hy with q | q
  ·exact p.sub y q
  ·exact E y ((w y).mp (dD.mp q).1)
 ·rcases p.all y hy with q | ⟨x,hx,u,q⟩
  ·exact .inl (aH.mpr (.inl q))
  ·k_extra"aH"
   ·refine .inl (aH.mpr ?_)
    cases A:E5 F y with
    | true=>exact .inl ((qY c (M y hy)).mp A)
    | false=>exact .inr (dD.mpr ⟨(w y).mpr q,by rw[A];rfl⟩)
   ·exact .inr ⟨x,hx,u,q⟩
theorem NmP.fin(p:NmP Gs gt args F [])(y:V):y∈F↔y∈Gs:=⟨p.sub y,λI=>by
 rcases p.all y I with q | ⟨x,U,_⟩
 ·exact q
 ·cases U⟩
end
section
variable{g:G}
set_option tactic.hygienic true in
theorem ZC{u:Str}(hu:u = "line"):∀ (n:Nat) {g:G} {D:Nat} {v:V} {Z:Hp} {Q:V->Hp->Prop} {X:Str->Hp->Prop},Nm g->n+2<=D->ok z n v=true->(g6 n v u).length<64->
  (∀ b L,Z b=none->L.Nodup->(∀ y,y∈L↔y∈g6 n v u)->Q (.ref b) (upd Z b (.L L)))->d8 g D true "_law_named" [v,.str u] Z Q X:=by
 intro n;induction n with
 | zero=>intro g D v Z Q X N hD K;exact(az K).elim
 | succ n ih=>
  intro g D v Z Q X N hD K hl h;have Za:=By hu K;refine k9 (N5 K) λw args Ja=>?_;subst Ja
  refine F9 (mX K) λm hm hs T A=>?_
  obtain rfl:n=m:=Nat.succ.inj hm;have h5:2<=(args.length:Int)+1/\(args.length:Int)+1<=4:=(by k_extra"#":∀ p∈szs,2<=p.2/\p.2<=4) _ (Y1 hs)
  have hz:args.length<=100:=by lia
  have P:∃ x l,args=x::l:=by
   cases args with
   | nil=>exact absurd h5.1 (by decide)
   | cons x l=>exact⟨x,l,rfl⟩
  clear h5 K hm;have O:∀ x∈g9 w args,(g6 n x u).length<64:=λx U=>by
   have:=Gp (l:=(g9 w args).map λx=>(g6 n x u).length) (x:=(g6 n x u).length) (aM.mpr ⟨_,U,rfl⟩)
   rw[I8,aK,lH,cR] at hl;exact bA (aj this (aZ _ _)) hl
  have Y:∀ y,y∈g6 (n+1) (.tup (.str w::args)) u↔(y∈(if w==u then[arg args 0] else[]))∨∃ x∈g9 w args,y∈g6 n x u:=λy=>by
   rw[I8,aH,il];refine or_congr Iff.rfl ⟨λq=>?_,λq=>?_⟩
   ·refine a7 q λ_ hr q=>a7 (aM.mp hr) λx U Ja=>?_
    subst Ja;exact⟨x,U,q⟩
   ·exact a7 q λx U q=>⟨_,aM.mpr ⟨x,U,rfl⟩,q⟩
  generalize g6 (n+1) (.tup (.str w::args)) u=Gs at Za hl Y h;refine bd N JD (by k_extra"b") hD λcx p=>?_
  intro b hb;have k:Gn.w true l6 cx [] [some (.tup (.str w::args)),some (.str u),some (.ref b),none] (upd Z b (.L (if w==u then[arg args 0] else[]))):=?_
  ·refine k9 P λx l Ja=>?_;try clear P;subst Ja
   k_extra"w"
   ·rename_i e
    refine Stop.mk ?_;rw[if_pos (beq_iff_eq.mpr e)] at k;exact k
   ·rename_i e
    refine Stop.mk ?_;rw[if_neg (λq=>e (beq_iff_eq.mp q))] at k;exact k
  clear P;k_extra"w";rw[wK];refine Loop.g p (λrest J' S=>∃ c F o,Z c=none/\NmP Gs (λx=>g6 n x u) args F rest/\S=upd Z c (.L F)/\J'=[some (.tup (.str w::args)),some (.str u),some (.ref c),o]) ⟨b,_,none,hb,⟨?_,λy I=>(Y y).mpr (.inl I),λy I=>?_,λx U=>U⟩,rfl,rfl⟩ (λcx p hB v rest hJ=>?_) ?_
  ·split
   ·exact .cons (λ_ h=>by cases h) .nil
   ·exact .nil
  ·refine((Y y).mp I).imp id λq=>a7 q λx U q=>?_
   exact k9 (N5 (A x U)) λw' a' e=>⟨x,Gk U,⟨_,e⟩,q⟩
  ·k_extra"bA"
   k_extra"X";have E:=hp.mem v (.head _);by_cases ht:∃ l,v=.tup l
   ·have hv:=PN hs T E ht.choose_spec
    have hvk:=A v hv;have hvl:=O v hv;have hvg:∀ y∈g6 n v u,y∈Gs:=λy I=>(Y y).mpr (.inr ⟨v,hv,I⟩)
    refine d4 ht λl Ja=>?_;try clear ht;subst Ja
    clear O A Y hv E hs T;k_extra"w";refine ih p.N (aj (aG (bL n 1).symm) p.d) hvk hvl λe L2 he hS R=>?_
    have hL2:∀ y∈L2,q9 y:=λy I=>Za y (hvg y ((R y).mp I))
    have hFa:∀ y∈F,q9 y:=λy I=>Za y (hp.sub y I)
    have hL2l:L2.length<=63:=cz (bA (E4 hS λy I=>(R y).mp I) hvl)
    k_extra"cJ";have hce:c≠e:=j7 (d6 _ _ _) he;refine Look.mk L2 (d6 _ _ _) (CLoop.g p (λrest M S=>upd (upd Z c (.L F)) e (.L L2)=S/\∃ done,L2=done++rest/\M=done.filter (λy=>!E5 F y)) (by k_extra"n") ⟨rfl,[],rfl,rfl⟩ (λcx p v rest M hJ2 hN=>?_) ?_)
    ·rintro _ C;obtain⟨rfl,done,hd,rfl⟩:=C
     have hv2:q9 v:=hL2 v (hd▸aH.mpr (.inr (.head _)));refine⟨d6 _ _ _,?_⟩;k_extra"w";refine InL.mk (q9.flatL hFa) hv2.flat (by rw[q9.depL hFa,hv2.dep];exact aj (by decide) (gq 8 (aj (aZ 1 (n+1)) p.d))) ?_
     have hd2:L2=(done++[v])++rest:=by rw[hd,bH];rfl
     k_extra"w"
     ·rename_i H
      exact hJ2 ⟨rfl,done++[v],hd2,by rw[dI,dw,if_pos (by rw[show E5 F v=false from Bool.eq_false_iff.mpr (Ne.symm H)];rfl)];rfl⟩
     ·rename_i H
      exact hN ⟨rfl,done++[v],hd2,by rw[dI,dw,if_neg (by rw[show E5 F v=true from H.symm];decide)];exact(bI _).symm⟩
    ·rintro M _ C;obtain⟨rfl,done,hd,rfl⟩:=C
     rw[bI] at hd;subst hd;refine⟨d6 _ _ _,λa ha=>?_⟩
     have hfl:(L2.filter λy=>!E5 F y).length<=L2.length:=iy _ _
     k_extra"w";rename_i f T;exact Drop.mk (E9 (((Sub.upd hc).trans (Sub.upd he)).trans (Sub.upd ha))) (hJ ⟨f,_,_,(j3 (j3 (j3 T).2).2).2,(hp.put hS R hvg Za),rfl,rfl⟩)
   ·have hp2:=hp.skip ht
    rcases DN hs T E with q | ⟨i,rfl⟩ | ⟨i,rfl⟩
    ·exact k9 (N5 (A v q)) λw' a' e=>absurd ⟨_,e⟩ ht
    all_goals
     clear Y O A hs T E;k_extra"w";exact Drop.mk (Sub.refl _) (hJ ⟨c,F,_,hc,hp2,rfl,rfl⟩)
  ·k_extra"bA"
   k_extra"X";k_extra"cJ";refine d4 (sO λy I=>Za y (hp.sub y I)) λns Ja=>?_;subst Ja
   k_extra"w";refine Srted.mk ns (d6 _ _ _) (by rw[aq] at hFl;exact fP hFl) λe L he H=>?_
   k_extra"w";have H:=H.map V.int;exact p.r (E9 (Sub.upd hc)) (h e _ (j3 he).2 (H.nodup_iff.mpr hp.nd) λy=>H.mem_iff.trans (hp.fin y))
end
def t9(v:V):Bool:=match v with
 | .tup l=>decide (l.length=3)&&(f9 (arg l 0) (0-1000000000) 1000000000&&(f9 (arg l 1) (0-1000000000) 1000000000&&f9 (arg l 2) 0 100))
 | _=>false
def Gh(v:V):Int:=match v with
 | .tup (.int a::_)=>a
 | _=>0
def E1(l:List V)(k:Nat):Bool:=decide (Gh (l.getD k .none)<Gh (l.getD (k+1) .none))
def u8(v:V):Bool:=match v with
 | .tup l=>(decide (1<=l.length)&&decide (l.length<=20))&&(l.all t9&&(bh (l.length-1)).all (E1 l))
 | _=>false
theorem YT(h:l.length≠3):t9 (.tup l)=false:=by
 show(decide (l.length=3)&&_)=false;rw[decide_eq_false h];rfl
theorem sE:t9 (.tup [a,b,c])=(f9 a (0-1000000000) 1000000000&&(f9 b (0-1000000000) 1000000000&&f9 c 0 100)):=rfl
section
variable{g:G}{Q:V->Hp->Prop}
open Internal renaming U2->y14,F7->y15
theorem cz3:True:=by
 k_with"c"=>first | refine y14 p.N (by k_extra"d") (Cld.ok (by assumption)) ?_ | refine y15 p.N (by k_extra"d") (Cld.ok (by assumption)) ?_
 trivial
set_option tactic.hygienic true in
theorem Zv(N:Nm g)(hD:3<=D)(ok:Cld Z v)(h:Q (.bool (t9 v)) Z):d8 g D true "is_row" [v] Z Q X:=by
 refine bd N bR6 (by k_extra"b") hD λcx p=>?_
 cases v with
 | tup l=>
  refine d5 ok.tups λu U=>?_
  have u:l.length<=10000:=aj u (by decide)
  k_extra"w"
  ·rename_i hl
   refine p.h ?_;rw[YT (λq=>hl (by rw[q];rfl))] at h;exact h
  ·rename_i hl
   refine Q3 (Q6 (l:=l) (gY.mp hl)) λa b c Ja=>?_;subst Ja
   have x:=U a (by k_extra"m")
   have w:=U b (by k_extra"m")
   have y:=U c (by k_extra"m")
   k_extra"w"
   ·rename_i M Y
    rw[sE,M,Y] at h;exact p.h h
   ·rename_i M Y
    exact p.b Y (by rw[sE,M,Y] at h;exact h)
   ·rename_i M
    exact p.b M (by rw[sE,M] at h;exact h)
 | ref a=>
  k_extra"cr"
  k_extra"w";all_goals exact p.h h
 | _=>
  k_extra"ap"
end
section
variable{g:G}{Q:V->Hp->Prop}
theorem X8(h:t9 v=true):∃ a b c,v=.tup [.int a,.int b,.int c]/\0<=c/\c<=100:=by
 cases v with
 | tup l=>
  refine d5 ((cG _ _).mp (show(decide (l.length=3)&&_)=true from h)) λM Za=>Q3 (Q6 (f4 M)) λx y t Ja=>?_
  subst Ja;refine d5 ((cG _ _).mp Za) λZa q=>d5 ((cG _ _).mp q) λS L=>?_
  refine a7 (t8 Za) λa u N=>a7 (t8 S) λb w N=>?_
  exact f6 (t8 L) λc A C E=>⟨a,b,c,by rw[show x=_ from u,show y=_ from w,show t=_ from A],C,E⟩
 | _=>exact ff h
theorem ye(h:t9 v=true):∃ a b c,v=.tup [.int a,b,c]:=by
 exact v8 (X8 h) λa b c e N=>⟨a,_,_,e⟩
theorem qg{l:List V}(h:l[k]?=some x):l.getD k .none=x:=by rw[aP,h];rfl
set_option tactic.hygienic true in
theorem J1(N:Nm g)(hD:4<=D){v:V}(ok:Cld Z v)(h:Q (.bool (u8 v)) Z):d8 g D true "is_table" [v] Z Q X:=by
 refine bd N Td (by k_extra"b") hD λcx p=>?_
 cases v with
 | tup l=>
  refine d5 ok.tups λO U=>?_
  have hz:l.length<=10000:=aj O (by decide)
  k_extra"w"
  ·rename_i h1 h2
   refine Loop.g p (λy w u=>Z=u/\l.all t9=y.all t9/\(∀ x∈y,Cld Z x)/\∃ o,w=[some (.tup l),o]) ⟨rfl,rfl,U,none,rfl⟩ (λcx p hB v y H=>?_) ?_
   ·rintro _ _ A;obtain⟨rfl,L,M,o,rfl⟩:=A
    k_extra"X";k_extra"w";refine Zv p.N (p.dd (by decide)) (M v (by k_extra"m")) ?_
    k_extra"w"
    ·rename_i S
     exact H ⟨rfl,by rw[L,jh,S,jg],λx U=>M x (.tail _ U),_,rfl⟩
    ·rename_i S
     have e:u8 (.tup l)=false:=by
      show(_&&(l.all t9&&_))=false;rw[L,jh,S,gJ,gJ,gb]
     rw[e] at h;exact p.h h
   ·rintro _ _ A;obtain⟨rfl,L,M,o,rfl⟩:=A
    k_extra"X";have L:=L;have hr:=bc.mp L;have K:1<=l.length:=by exact qM h1
    k_extra"w";refine U9 p (λi F u=>Z=u/\F=(bh i).map λk=>V.bool (E1 l k)) (by lia) ⟨rfl,rfl⟩ (λcx p i F I H hN=>?_) ?_
    ·rintro _ A;refine d5 A λqa qb=>?_;clear A;subst qa;rw[qb] at H hN
     k_extra"L";have P:i<l.length:=by exact Ia I
     have C:i+1<l.length:=by exact bd9 I
     refine Q3 (ye (hr _ (cT P))) λa b c ea=>Q3 (ye (hr _ (cT C))) λE R Y Ja=>?_
     have Za:l[i]?=some (.tup [.int a,b,c]):=by rw[ak P,ea]
     have g2:l[i+1]?=some (.tup [.int E,R,Y]):=by rw[ak C,Ja]
     k_extra"w";refine Idx.mk (by exact C1) (by exact bt3 I) (by lia) λx T=>?_
     obtain rfl:x=.tup [.int a,b,c]:=d7 (T.symm.trans Za);k_extra"w";refine Idx.mk (by exact VG) (by exact cj3 I) (by lia) λx T=>?_
     obtain rfl:x=.tup [.int E,R,Y]:=d7 (T.symm.trans g2);k_extra"w";refine H ⟨rfl,?_⟩;rw[dY,aN];show _=_++[V.bool (E1 l i)];unfold E1;rw[qg Za,qg g2];rfl
    ·rintro F _ ⟨rfl,rfl⟩ c hc
     k_extra"w";have e:u8 (.tup l)=((bh (l.length-1)).map (E1 l)).all id:=by
      show((decide (1<=l.length)&&decide (l.length<=20))&&(l.all t9&&(bh (l.length-1)).all (E1 l)))=_;rw[L,decide_eq_true K,decide_eq_true (show l.length<=20 by exact xG h2),jC];rfl
     have e2:((l.length:Int)-1-0).toNat=l.length-1:=Qp _;refine AllB.mk ((bh (l.length-1)).map (E1 l)) (by rw[e2,cR];exact d6 _ _ _) ?_
     rw[e] at h;exact p.r (Sub.upd hc) h
  all_goals
   have e:u8 (.tup l)=false:=by
    show((decide (1<=l.length)&&decide (l.length<=20))&&_)=false;have:¬ (1<=l.length)∨¬ (l.length<=20):=by lia
    rcases this with q | q<;>simp[q]
   rw[e] at h;exact p.h h
 | ref a=>
  k_extra"cr"
  k_extra"w";all_goals exact p.h h
 | _=>
  k_extra"ap"
end
theorem wI(k:Int)(p:Int×V)(L:List (Int×V)):i9 (p::L) k=if p.1=k then some p.2 else i9 L k:=by
 unfold i9;rw[fK];by_cases e:p.1=k
 ·rw[if_pos e,show decide (p.1=k)=true from decide_eq_true e];rfl
 ·rw[if_neg e,show decide (p.1=k)=false from decide_eq_false e]
theorem uP{L:List (Int×V)}(h:k∈L.map (·.1)):∃ v,i9 L k=some v/\(k,v)∈L:=by
 induction L with
 | nil=>cases h
 | cons p L c=>
  rw[wI];by_cases e:p.1=k
  ·rw[if_pos e];exact⟨p.2,rfl,by rw[<- e];exact .head _⟩
  ·rw[if_neg e]
   rcases au.mp h with q | q
   ·exact absurd q.symm e
   ·refine a7 (c q) λv Za S=>?_;exact⟨v,Za,.tail _ S⟩
theorem JB{L:List (Int×V)}(h:k∉L.map (·.1)):i9 L k=none:=by
 induction L with
 | nil=>rfl
 | cons p L c=>
  rw[wI,if_neg (λe=>h (by rw[<- e];exact .head _))]
  exact c λq=>h (.tail _ q)
theorem Bq{L:List (Int×V)}(h:k∉L.map (·.1)):x7 L k v=L++[(k,v)]:=by
 unfold x7;rw[if_neg];intro q;exact a7 (fj.mp q) λp M e=>h (by rw[<- f4 e];exact aM.mpr ⟨p,M,rfl⟩)
structure NmAt(Z:Hp)(na:Addr)(nm:List (List Int)):Prop where
 ex:∃ rs:List Addr,Z na=some (.L (rs.map .ref))/\rs.length=nm.length/\∀ (i:Nat) r,rs[i]?=some r->Z r=some (.L ((nm.getD i []).map .int))
 n100:nm.length<=100
 l100:∀ l∈nm,l.length<=100
theorem NmAt.sub(h:NmAt Z c nm)(k:Sub Z Z'):NmAt Z' c nm:=by
 obtain⟨⟨u,Za,S,L⟩,q,E⟩:=h;exact⟨⟨u,k _ _ Za,S,λi r e=>k _ _ (L i r e)⟩,q,E⟩
theorem NmAt.len(h:NmAt Z c nm):(nm.getD i []).length<=100:=by
 rw[aP];cases e:nm[i]? with
 | none=>exact aY _
 | some l=>exact h.l100 l (aL e)
structure Acy(nm:List (List Int))(rk:Int->Nat):Prop where
 rng:∀ (i:Nat),∀ j∈nm.getD i [],0<=j/\j<nm.length
 dn:∀ (i:Nat),∀ j∈nm.getD i [],rk j<rk i
structure SJ(goal:Int)(rk:Int->Nat)(n:Nat)(S:List Int)(L:List (Int×V)):Prop where
 keys:L.map (·.1)=S
 nd:S.Nodup
 rng:∀ x∈S,0<=x/\x<n
 up:∀ x∈S,x=goal∨rk goal<rk x
 vals:∀ p∈L,∃ i,p.2=.int i
theorem L4{S:List Int}{n:Nat}(q:S.Nodup)(h:∀ x∈S,0<=x/\x<n):S.length<=n:=by
 have:=E4 (l:=S.map .int) (k:=(bh n).map fun(i:Nat)=>V.int i) (List.Pairwise.map _ (λa b c e=>c (V.int.inj e)) q) λy hy=>by
  refine a7 (aM.mp hy) λx hx qa=>?_;subst qa
  exact d5 (h x hx) λM Za=>aM.mpr ⟨x.toNat,bY.mpr ((iC M).mpr Za),by rw[bQ M]⟩
 rw[aq,aq,bO] at this;exact this
theorem SJ.push{E:Int}{S:List Int}{L:List (Int×V)}(h:SJ E rk n S L){o i:Int}(P:o∉S)(M:0<=o)(Za:o<n)(A:rk E<rk o):SJ E rk n (S++[o]) (x7 L o (.int i)):=by
 rw[Bq (by rw[h.keys];exact P)]
 refine⟨by rw[aN,h.keys];rfl,?_,?_,?_,?_⟩
 ·refine cA.mpr ⟨h.nd,(by k_extra"m"),λx hx y hy e=>?_⟩
  rw[aA.mp hy] at e;exact P (e▸hx)
 ·intro x hx
  k_extra"aI"
  ·exact h.rng x q
  ·rw[aA.mp q];exact⟨M,Za⟩
 ·intro x hx
  k_extra"aI"
  ·exact h.up x q
  ·rw[aA.mp q];exact .inr A
 ·intro p c
  rcases aH.mp c with q | q
  ·exact h.vals p q
  ·rw[aA.mp q];exact⟨i,rfl⟩
theorem pR{l:List Int}:∀ y∈l.map V.int,q9 y:=λy I=>by refine a7 (aM.mp I) λi N Ja=>?_;subst Ja;exact⟨i,rfl⟩
theorem Wb{l:List Int}:E5 (l.map .int) (.int x)=true↔x∈l:=by
 rw[qY pR ⟨x,rfl⟩];constructor
 ·intro h;refine a7 (aM.mp h) λi c e=>?_;exact V.int.inj e▸c
 ·intro h;exact aM.mpr ⟨x,h,rfl⟩
theorem Ft{l:List Int}:((g7 (l.map .int)).any λy=>PyData.eqv y (dat (.int x)))=decide (x∈l):=by
 rw[jM,decide_eq_true_iff];exact Wb
theorem nH(h:1<=d):0+1<=8*d:=aj (by decide) (gq 8 h)
theorem CQ(c:1<=d){l:List Int}:min (depL (l.map .int)) (dep (.int x))+1<=8*d:=by
 rw[q9.depL pR,Nat.zero_min];exact nH c
theorem vQ(c:1<=d){l:List Int}{Q:VP}(h:Q (.bool (decide (x∈l))) Z):InL false d (l.map .int) (.int x) Z Q:=
 InL.mk (q9.flatL pR) rfl (CQ c) (by rw[Ft,fZ];exact h)
theorem NQ(c:1<=d){l:List Int}{Q:VP}(h:Q (.bool (!decide (x∈l))) Z):InL true d (l.map .int) (.int x) Z Q:=
 InL.mk (q9.flatL pR) rfl (CQ c) (by rw[Ft,gm];exact h)
theorem bW7:upd (upd (upd (upd Z a x) b y) a q) b u=upd (upd Z a q) b u:=by
 funext c
 unfold upd;by_cases Za:c=b
 ·rw[if_pos Za,if_pos Za]
 ·rw[if_neg Za,if_neg Za]
  by_cases S:c=a
  ·rw[if_pos S,if_pos S,if_neg Za]
  ·rw[if_neg S,if_neg Za,if_neg S,if_neg S]
section
variable{g:G}{Q:V->Hp->Prop}
set_option tactic.hygienic true in
theorem Rm(N:Nm g)(hD:2<=D){nm:List (List Int)}{E:Int}{rk:Int->Nat}(U:NmAt Z na nm)(hA:Acy nm rk)(h0:0<=E)(h1:E<nm.length)
  (h:∀ D S L,Z D=none->SJ E rk nm.length S L->Q (.ref D) (upd Z D (.di L))):d8 g D true "steps_to" [.ref na,.int E] Z Q X:=by
 refine bd N Wx (by k_extra"b") hD λcx p=>f6 U.ex λrs hna hrl hrs=>?_
 have hz:(rs.map V.ref).length<=100:=by rw[aq,hrl];exact U.n100
 k_extra"cs"
 k_extra"w";rename_i D hD sA hsA;refine d5 (j3 hsA) λhne I=>?_
 have p0:=p;refine Whl.g p (λm w T=>∃ (S:List Int) (L:List (Int×V)) (a:Nat) (o5 R:Option V),SJ E rk nm.length S L/\m=nm.length-a/\a<=S.length/\T=upd (upd Z D (.di L)) sA (.L (S.map .int))/\
  w=[some (.ref na),some (.int E),some (.ref D),some (.ref sA),some (.int a),o5,R]) (nm.length-0) ⟨[E],_,0,none,none,?_,rfl,aY _,rfl,rfl⟩ λcx p hB m hW=>?_
 ·exact⟨rfl,(by k_extra"m"),λx hx=>by rw[aA.mp hx];exact⟨h0,h1⟩,λx hx=>.inl (aA.mp hx),λp hp=>by rw[aA.mp hp];exact⟨0,rfl⟩⟩
 ·rintro _ _ O;refine RM O λS L a o5 R hS Ja ha qb q3_=>?_;clear O;rw[Ja] at hW;subst qb;subst q3_
  have c:=L4 hS.nd hS.rng;have K:(S.map V.int).length=S.length:=aq _;have hS2:(S.map V.int).length<=10000:=by rw[K];have:=U.n100;exact xg hz hz2 c
  k_extra"w"
  ·rename_i C
   refine Idx.mk (C1) (by exact C) (by exact cL C (bG (bj.mpr (aj (aG K) (aj c (aj (aG hz2.symm) hz)))) (by decide))) λx hx=>?_
   refine a7 (Dp hx) λline u Ja=>?_;subst Ja
   k_extra"ca"
   k_extra"w";refine x3 p (λi w T=>∃ (Y:List Int) (F:List (Int×V)) (R:Option V),SJ E rk nm.length Y F/\S.length<=Y.length/\line∈Y/\T=upd (upd Z D (.di F)) sA (.L (Y.map .int))/\
    w=[some (.ref na),some (.int E),some (.ref D),some (.ref sA),some (.int a),some (.int line),R]) ⟨S,L,R,hS,aV _,u,rfl,rfl⟩ (λcx p hB i hi hJ=>?_) ?_
   ·k_extra"bB"
    have hi':i<nm.length:=by exact nA hz2 hi
    have M:=L4 y.nd y.rng;have Za:(Y.map V.int).length=Y.length:=aq _;have hS2':(Y.map V.int).length<=10000:=by rw[Za];have:=U.n100;exact xg hz hz2 M
    have hLl:F.length<=10000:=by have:=congrArg List.length y.keys;rw[aq] at this;have:=U.n100;exact aj (aG (by assumption)) (aj M (aj (aG hz2.symm) (aj hz (by decide))))
    have hsA2:upd Z D (.di F) sA=none:=by rw[e8 _ _ hne];exact I
    obtain⟨r,hr⟩:∃ r,rs[i]?=some r:=⟨_,ak (by exact MP hrl hz2 hi)⟩
    have hZr:=hrs i r hr;have e0:(0:Int)+(i:Int)=i:=bJ _;rw[e0];have hup:line∈nm.getD i []->rk E<rk i:=λq=>by
     have:=hA.dn i line q;rcases y.up line A with e | e
     ·rw[e] at this;exact this
     ·exact eX e this
    k_extra"w";refine Idx.mk (C1) (Aa hi) (by exact Tz hz hi) λx hx=>?_
    obtain rfl:x=.ref r:=by
     have e:(rs.map V.ref)[i]?=some (.ref r):=by rw[aB,hr];rfl
     exact d7 (hx.symm.trans e)
    k_extra"w";refine vQ (by k_extra"d") ?_
    k_extra"w"
    ·rename_i hin P
     have hno:(i:Int)∉Y:=λq=>by
      obtain⟨v,hv,-⟩:=uP (L:=F) (k:=i) (by rw[y.keys];exact q)
      rw[hv] at P;exact P rfl
     obtain⟨v,hv,hv'⟩:=uP (L:=F) (k:=line) (by rw[y.keys];exact A)
     refine d4 (y.vals _ hv') λk ek=>?_
     obtain rfl:v=.int k:=ek;refine DAt.mk _ hv ?_;k_extra"w";refine hJ ⟨Y++[(i:Int)],_,_,y.push (i:=k+1) hno (bB i) (by exact Sy hz2 hi) (hup hin),by rw[aK];exact jR H,aH.mpr (.inl A),?_,rfl⟩
     rw[bW7,aN];rfl
    ·exact hJ ⟨Y,F,_,y,H,A,rfl,rfl⟩
    ·exact hJ ⟨Y,F,_,y,H,A,rfl,rfl⟩
   ·k_extra"bB"
    k_extra"w";exact hW (j:=nm.length-(a+1)) (vK (by exact aX (aQ.mp C) (aj (aG K) c))) ⟨Y,F,a+1,_,_,y,rfl,by exact aj (aQ.mp C) (aj (aG K) H),rfl,rfl⟩
  ·k_extra"ca"
   exact hB (p0.r (Sub.upd hsA2) (h D S L hD hS))
theorem Yu(c:1<=d){Q:VP}(h:Q (.bool true) Z):EqL false d [] [] Z Q:=EqL.mk rfl rfl (nH c) h
theorem xN(c:1<=d){Q:VP}(h:Q (.bool false) Z):EqL true d [] [] Z Q:=EqL.mk rfl rfl (nH c) h
set_option tactic.hygienic true in
theorem Rr(N:Nm g)(hD:3<=D){nm:List (List Int)}{y:Int}{rk:Int->Nat}(C:NmAt Z na nm)(R:Acy nm rk)(M:0<=y)(Za:y<nm.length)
  (h:∀ b,Z b=none->Q (.ref b) (upd Z b (.L []))):d8 g D true "ring_from" [.ref na,.int y] Z Q X:=by
 refine bd N cr0 (by k_extra"b") hD λcx p=>f6 C.ex λrs hna hrl U=>?_
 have hz:(rs.map V.ref).length<=100:=by rw[aq,hrl];exact C.n100
 k_extra"cs"
 have Y:y.toNat<nm.length:=U8 M Za;obtain⟨r,hr⟩:∃ r,rs[y.toNat]?=some r:=⟨_,ak (by exact WF hrl Y)⟩
 k_extra"w";refine Rm p.N (p.dd (by decide)) C R M Za λD S L hD hS=>?_
 k_extra"w";refine Idx.mk M (Tu Za hz2) (by exact cL Za (bG (bj.mpr (aj (aG hz2.symm) hz)) (by decide))) λx hx=>?_
 obtain rfl:x=.ref r:=by
  have e:(rs.map V.ref)[y.toNat]?=some (.ref r):=by rw[aB,hr];rfl
  exact d7 (hx.symm.trans e)
 have w:upd Z D (.di L) r=some (.L ((nm.getD y.toNat []).map .int)):=i4 (U _ r hr) hD;have T:∀ j∈nm.getD y.toNat [],i9 L j=none:=λj P=>by
  refine JB ?_;rw[hS.keys];intro q;have H:=R.dn _ j P;rw[show((y.toNat:Nat):Int)=y by exact bQ M] at H
  rcases hS.up j q with e | e
  ·rw[e] at H;exact eE _ H
  ·exact eE _ (eX H e)
 k_extra"w";refine CLoop.g p (λA F u=>upd Z D (.di L)=u/\F=[]/\∃ E:List Int,A=E.map .int/\∀ j∈E,j∈nm.getD y.toNat []) (by rw[aq];exact nq (C.len (i:=y.toNat))) ⟨rfl,rfl,_,rfl,λj P=>P⟩ (λcx p v A F hJ C=>?_) ?_
 ·rintro _ K;obtain⟨rfl,rfl,E,hl,hm⟩:=K
  refine⟨w,?_⟩;cases E with
  | nil=>cases hl
  | cons j E=>
   refine d5 (List.cons.inj hl) λe1 Ja=>?_;rw[Ja] at hJ C hl
   subst e1;have P:=T j (hm j (.head _));k_extra"w"
   ·rename_i q;rw[P] at q;exact absurd rfl q
   ·exact C ⟨rfl,rfl,E,rfl,λi hi=>hm i (.tail _ hi)⟩
 ·rintro F _ K;refine i5 K λJa qb _=>?_;clear K;subst Ja;subst qb
  refine⟨w,λc hc=>?_⟩
  k_extra"w";rename_i e he;refine Yu (by k_extra"d") ?_
  k_extra"w";rename_i b hb;refine d5 (j3 hb) λhb1 mZ=>d5 (j3 mZ) λhb3 O=>?_
  exact d5 (j3 O) λhb5 I=>p.r (E9 (((Sub.upd hD).trans (Sub.upd hc)).trans (Sub.upd he))) (h b I)
end
structure RuleOK(z:Lim)(v:V):Prop where
 ok:Internal.ok z 8 v=true
 few:∀ u,(g6 8 v u).length<64
 cld:∀ Z,Cld Z v
structure Nam(rh:List V)(nm:List (List Int)):Prop where
 len:nm.length=rh.length
 iff:∀ (i:Nat) l v,nm[i]?=some l->rh[i]?=some v->∀ y,y∈l.map V.int↔y∈g6 8 v (aa "line")
 l100:∀ l∈nm,l.length<=100
structure RsAt(Z:Hp)(rs:List Addr)(nm:List (List Int)):Prop where
 len:rs.length=nm.length
 at':∀ (i:Nat) r,rs[i]?=some r->Z r=some (.L ((nm.getD i []).map .int))
theorem pA{q:Type}{l:List q}{x y:q}(h:(l++[x])[i]?=some y):l[i]?=some y∨(i=l.length/\y=x):=by
 by_cases c:i<l.length
 ·rw[eH c] at h;exact .inl h
 ·rw[cH (bU c)] at h
  obtain⟨C,e⟩:=aF.mp h;have M:=Nat.lt_one_iff.mp C;refine .inr ⟨dB (fO.mp M) (bU c),?_⟩;rw[<- e];simp[M]
theorem RsAt.snoc{Z:Hp}{rs:List Addr}{nm:List (List Int)}{b:Addr}{l:List Int}(h:RsAt Z rs nm)(Y:Z b=none):RsAt (upd Z b (.L (l.map .int))) (rs++[b]) (nm++[l]):=by
 refine⟨by rw[aK,aK,h.len];rfl,λi r e=>?_⟩
 rcases pA e with q | ⟨rfl,rfl⟩
 ·have c:=h.len▸(aF.mp q).1
  rw[aP,eH c,<- aP];exact i4 (h.at' i r q) Y
 ·rw[d6,aP,h.len,cH (aV _),gG];rfl
theorem Nam.snoc{rh:List V}{nm:List (List Int)}{v:V}{l:List Int}(h:Nam rh nm)(hl:l.length<=100)(w:∀ y,y∈l.map V.int↔y∈g6 8 v (aa "line")):Nam (rh++[v]) (nm++[l]):=by
 refine⟨by rw[aK,aK,h.len];rfl,λi u x E e2=>?_,λu c=>?_⟩
 ·rcases pA E with F | ⟨F,rfl⟩
  ·rcases pA e2 with q2 | ⟨q2,rfl⟩
   ·exact h.iff i u x F q2
   ·have:=(aF.mp F).1;rw[h.len,q2] at this;exact absurd this (eE _)
  ·rcases pA e2 with q2 | ⟨q2,rfl⟩
   ·have:=(aF.mp q2).1;rw[<- h.len,F] at this;exact absurd this (eE _)
   ·exact w
 ·rcases aH.mp c with q | q
  ·exact h.l100 u q
  ·rw[aA.mp q];exact hl
theorem Nam.nil:Nam [] []:=⟨rfl,λi l v e=>(by cases e),λl hl=>(by cases hl)⟩
theorem RsAt.nm{nm:List (List Int)}(h:RsAt Z rs nm)(q:Nam rh nm)(hz:rh.length<=100)(O:Z c=none):NmAt (upd Z c (.L (rs.map .ref))) c nm:=
 ⟨⟨rs,d6 _ _ _,h.len,λi r e=>i4 (h.at' i r e) O⟩,q.len▸hz,q.l100⟩
section
variable{g:G}{Q:V->Hp->Prop}
theorem xT{s:List V}{J:Lo}(p:Pk pq tab g n QQ O c)(C:11<=n)(U:∀ r∈rh,RuleOK z r)(hz:rh.length<=100)(I:∀ Z',Sub Z Z'->P Z')
  (h:∀ rs nm Z' b,Sub Z Z'->RsAt Z' rs nm->Nam rh nm->Z' b=none->K c (.ref b::s) J (upd Z' b (.L (rs.map .ref)))):CLoop ((IC.e (.call "named" (.cons (.v 0) (.cons (.k (.str "line")) .nil)))).w true) K [] rh P c s J Z:=by
 refine CLoop.g p (λu F Z'=>∃ done rs nm,rh=done++u/\F=List.map V.ref rs/\Sub Z Z'/\RsAt Z' rs nm/\Nam done nm) (aj hz (by decide)) ⟨[],[],[],rfl,rfl,Sub.refl _,⟨rfl,λi r e=>(by cases e)⟩,Nam.nil⟩ (λcx p v u F H R=>?_) ?_
 ·rintro Z' w;refine x5 w λdone rs nm e Ja x A E=>?_;clear w;rw[Ja] at H R
  refine⟨I Z' x,?_⟩;have S:=U v (by rw[e];simp)
  refine d4 (sO (By rfl S.ok)) λns Za=>?_
  have T:=S.few (aa "line");rw[show(aa "line")=("line" : Str) from rfl,Za,aq] at T
  refine KY p.N (p.dd C) S.ok Za T λb L Y hS M=>H ⟨done++[v],rs++[b],nm++[L],by rw[e,bH];rfl,by rw[aN];rfl,x.trans (Sub.upd Y),A.snoc Y,E.snoc ?_ λy=>?_⟩
  ·exact aj hS (aj (bN T) (by decide))
  ·rw[Za,aM,aM];exact⟨λq=>a7 q λi a b=>⟨i,(M i).mp a,b⟩,λq=>a7 q λi a b=>⟨i,(M i).mpr a,b⟩⟩
 ·rintro F Z' w;refine x5 w λdone rs nm e Ja x A C=>?_;clear w;subst Ja
  refine⟨I Z' x,λc hc=>h rs nm Z' c x A ?_ hc⟩
  rw[bI] at e;rw[e];exact C
set_option tactic.hygienic true in
theorem ck1(N:Nm g)(hD:12<=D)(y:Z I=some (.L rh))(U:∀ r∈rh,RuleOK z r)(hz:rh.length<=100)(R:∀ nm,Nam rh nm->∃ rk,Acy nm rk)
  (h:∀ b,Z b=none->Q (.ref b) (upd Z b (.L []))):d8 g D true "ring_of" [.ref I] Z Q X:=by
 refine bd N IW (by k_extra"b") hD λcx p=>?_
 k_extra"w";refine xT p (by decide) U hz (λZ' K=>K _ _ y) λrs nm Z' c K hr M O=>?_
 ·refine d4 (R nm M) λrk E=>?_
  have x:=K _ _ y;k_extra"w";rename_i u A;refine x3 p (λi w C=>∃ o3 P,Sub (upd (upd Z' c (.L (rs.map .ref))) u (.L [])) C/\w=[some (.ref I),some (.ref c),some (.ref u),o3,P]) ⟨none,none,Sub.refl _,rfl⟩ (λcx p hB i hi T=>?_) ?_
  ·k_extra"ct"
   have F:=((hr.nm M hz O).sub (Sub.upd A)).sub L;have Y:=L _ _ (d6 _ _ _);k_extra"w";refine Rr p.N (p.dd (by decide)) F E (by exact Uw) (VB M.len hi) λb Y=>?_
   k_extra"cw"
   k_extra"w";exact T ⟨_,_,(L.trans (Sub.upd Y)).trans (Sub.upd Za),rfl⟩
  ·k_extra"ct"
   k_extra"w";refine p.r (Z':=upd Z u (.L [])) (Sub.trans ?_ L) (h u ?_)
   ·exact E9 (K.trans (Sub.upd O))
   ·refine d5 (j3 A) λh1 S=>?_
    cases q:Z u with
    | none=>rfl
    | some o=>rw[K _ _ q] at S;cases S
structure FormOK(rh tb:List V)(C ow:Int):Prop where
 rule:∀ r∈rh,RuleOK ⟨rh.length,tb.length,C⟩ r
 l1:1<=rh.length
 l40:rh.length<=40
 t5:tb.length<=5
 tab:∀ t∈tb,u8 t=true/\∀ Z,Cld Z t
 c0:0<=C
 c8:C<=8
 o0:0<=ow
 o1:ow<rh.length
 acy:∀ nm,Nam rh nm->∃ rk,Acy nm rk
theorem r8(Za:a<=i)(S:i<=b):f9 (.int i) a b=true:=by
 show(decide (a<=i)&&decide (i<=b))=true;rw[decide_eq_true Za,decide_eq_true S];rfl
set_option tactic.hygienic true in
theorem bO7(N:Nm g)(hD:14<=D){T:Addr}(hla:Z I=some (.L rh))(H:Z T=some (.L tb))(F:FormOK rh tb C q)
  (h:Q (.tup [.tup rh,.tup tb,.int C,.int q]) Z):d8 g D true "form_of" [.ref I,.ref T,.int C,.int q] Z Q X:=by
 refine bd N Uk (by k_extra"b") hD λcx p=>?_
 have t5:=F.t5;have l1:=F.l1;have O:=F.l40;have hc:=r8 F.c0 F.c8;have ho:=r8 (b:=(rh.length:Int)-1) F.o0 (by have:=F.o1;exact BK this)
 have P:∀ Z,Ok Z (.int C):=λZ a e=>by cases e
 have R:∀ Z,Ok Z (.int q):=λZ a e=>by cases e
 k_extra"w";refine CLoop.g p (λy E u=>Z=u/\∃ done,tb=done++y/\E=(done.map λ_=>true).map V.bool) (aj t5 (aZ ..)) ⟨rfl,[],rfl,rfl⟩ (λcx p v y E Ja hN=>?_) ?_
 ·rintro _ hh;obtain⟨rfl,done,e,rfl⟩:=hh
  refine⟨H,?_⟩;obtain⟨L,M⟩:=F.tab v (by rw[e];simp)
  k_extra"w";refine J1 p.N (p.dd (by decide)) (M _) ?_
  rw[L];exact Ja ⟨rfl,done++[v],by rw[e,bH];rfl,by rw[aN,aN];rfl⟩
 ·rintro E _ hh;obtain⟨rfl,done,e,rfl⟩:=hh
  refine⟨H,λc K=>?_⟩
  refine AllB.mk _ (d6 _ _ _) ?_;rw[show(done.map λ_=>true).all id=true by rw[jC];exact bc.mpr λ_ _=>rfl]
  k_extra"w";refine F7 p.N (p.dd (by decide)) (P _) ?_
  k_extra"w";refine F7 p.N (p.dd (by decide)) (R _) ?_
  k_extra"w";refine LoopR.held rh (by k_extra"h") (Loop.g p (λy w u=>upd Z c (.L ((done.map λ_=>true).map V.bool))=u/\(∀ x∈y,x∈rh)/\∃ o,w=[some (.ref I),some (.ref T),some (.int C),some (.int q),some (.int rh.length),o]) ⟨rfl,λx U=>U,none,rfl⟩ (λcx p hB v y Ja=>?_) ?_)
  ·rintro _ _ hh;obtain⟨rfl,A,o,rfl⟩:=hh
   refine⟨by k_extra"h",?_⟩
   have S:=F.rule v (A v (by k_extra"m"))
   have hok:=S.ok;k_extra"w";refine Js (z:=⟨rh.length,tb.length,C⟩) p.N (p.dd (by decide)) (S.cld _) ?_
   k_extra"w";exact Ja ⟨rfl,λx U=>A x (.tail _ U),_,rfl⟩
  ·rintro _ _ hh;obtain⟨rfl,-,o,rfl⟩:=hh
   refine⟨by k_extra"h",?_⟩
   k_extra"w";refine ck1 p.N (p.dd (by decide)) (rh:=rh) (by k_extra"h") F.rule (uM O) F.acy λb Y=>?_
   k_extra"cw"
   k_extra"w";exact p.r (((Sub.upd K).trans (Sub.upd Y)).trans (Sub.upd Za)) h
end
def qL(F:List Int)(y:V):Bool:=match y with
 | .int j=>decide (j∈F)
 | _=>false
def D2(rh:List V)(F:List Int)(i:Nat):Bool:=!decide ((i:Int)∈F)&&(g6 8 (rh.getD i .none) (aa "line")).all (qL F)
def U0(rh:List V)(F:List Int):Option Nat:=(bh rh.length).find? (D2 rh F)
class inductive Ordr (rh:List V):List Int->Prop
 | nil:Ordr rh []
 | snoc {F:List Int} {i:Nat} (h:Ordr rh F) (e:U0 rh F=some i):Ordr rh (F++[(i:Int)])
theorem qX{F:List Int}(h:U0 rh F=some i):i<rh.length/\D2 rh F i=true:=⟨bY.mp (eQ h),jO h⟩
theorem bT9{F:List Int}(h:D2 rh F i=true):(i:Int)∉F:=λq=>by
 unfold D2 at h;rw[decide_eq_true q] at h;cases h
theorem Ordr.ok{F:List Int}(h:Ordr rh F):F.Nodup/\∀ x∈F,0<=x/\x<rh.length:=by
 induction h with
 | nil=>exact⟨.nil,λx hx=>by cases hx⟩
 | snoc h e c=>
  refine d5 (qX e) λZa S=>?_
  refine⟨cA.mpr ⟨c.1,by simp,λx hx y hy q=>?_⟩,λx hx=>?_⟩
  ·rw[aA.mp hy] at q;exact(bT9 S) (q▸hx)
  ·k_extra"aI"
   ·exact c.2 x q
   ·rw[aA.mp q];exact⟨bB _,aQ.mpr Za⟩
theorem C3{c:Type}{l:List c}{x:c}(h:i<l.length):l[i]?=some (l.getD i x):=by rw[aP,ak h];rfl
theorem Nam.all(h:Nam rh nm)(c:i<rh.length)(F:List Int):(nm.getD i []).all (λj=>decide (j∈F))=(g6 8 (rh.getD i .none) (aa "line")).all (qL F):=by
 have u:=h.iff i _ _ (C3 (x:=[]) (h.len▸c)) (C3 (x:=.none) c);rw[jM,bc,bc];constructor
 ·intro q y I
  refine a7 (aM.mp ((u y).mpr I)) λj P Ja=>?_;subst Ja
  exact q j P
 ·intro q j P
  exact q (.int j) ((u _).mp (aM.mpr ⟨j,P,rfl⟩))
theorem Ov(x:Nam rh nm)(R:Acy nm rk){F:List Int}(hF:F.length<rh.length):∃ i,U0 rh F=some i:=by
 have c:∀ (k:Nat) (i:Nat),i<rh.length->(i:Int)∉F->rk i=k->∃ j,j<rh.length/\D2 rh F j=true:=by
  intro k;induction k using iQ with
  | ind k C=>
   intro i hi u K;cases q:(nm.getD i []).all (λj=>decide (j∈F)) with
   | true=>exact⟨i,hi,by unfold D2;rw[decide_eq_false u,<- x.all hi,q];rfl⟩
   | false=>
    refine a7 (List.all_eq_false.mp q) λj P w=>?_
    have w:j∉F:=λe=>w (decide_eq_true e)
    refine d5 (R.rng i j P) λh0 Za=>?_
    have e:=bQ h0;exact C (rk j) (K▸(R.dn i j P)) j.toNat (by rw[<- x.len];exact(iC h0).mpr Za) (by rw[e];exact w) (by rw[e])
 have T:∃ i,i<rh.length/\((i:Nat):Int)∉F:=by
  refine cu λhno=>?_
  k_extra"bv"
  have:=E4 (l:=(bh rh.length).map fun(i:Nat)=>V.int i) (k:=F.map .int) (List.Pairwise.map _ (λa b hab e=>hab (Int.ofNat.inj (V.int.inj e))) ir) λy hy=>by
   refine a7 (aM.mp hy) λi hi qa=>?_;subst qa
   exact aM.mpr ⟨_,hall i (bY.mp hi),rfl⟩
  rw[aq,aq,bO] at this;exact eE _ (aX hF this)
 refine a7 T λi hi u=>a7 (c _ i hi u rfl) λj P A=>?_
 cases q:U0 rh F with
 | some k=>exact⟨k,rfl⟩
 | none=>exact absurd A (List.find?_eq_none.mp q j (bY.mpr P))
theorem HR(c:i<n)(M:p i=true)(Y:∀ k,k<i->p k=false):(bh n).find? p=some i:=by
 rw[List.find?_eq_some_iff_getElem];refine⟨M,i,by rw[bO];exact c,List.getElem_range ..,λj P=>?_⟩
 rw[List.getElem_range,Y j P];rfl
theorem Kr(Za:Sub Z P)(S:w7 f P Z')(L:Z' f=some o):Sub (upd Z f o) Z':=λa U e=>by
 by_cases q:a=f
 ·subst q;rw[d6] at e;rw[L];exact e
 ·rw[e8 _ _ q] at e;exact S a U q (Za _ _ e)
theorem j4(h:Sub Z Z')(k:Z' a=none):Z a=none:=by
 cases q:Z a with
 | none=>rfl
 | some o=>rw[h _ _ q] at k;cases k
section
variable{g:G}{Q:V->Hp->Prop}
set_option tactic.hygienic true in
theorem cn5(N:Nm g)(hD:12<=D)(hR:∀ r∈rh,RuleOK z r)(hz:rh.length<=100)(hA:∀ nm,Nam rh nm->∃ rk,Acy nm rk)
  (h:∀ f F,Z f=none->Ordr rh F->F.length=rh.length->Q (.ref f) (upd Z f (.L (F.map .int)))):d8 g D true "order_of" [.tup [.tup rh,.tup tb,x,y]] Z Q X:=by
 refine bd N RP (by k_extra"b") hD λcx p=>?_
 k_extra"w";refine xT p (by decide) hR hz (λZ' hs=>trivial) λrs nm Z' c hs hr hn hc=>?_
 have p0:=p;refine d4 (hA nm hn) λrk hacy=>?_
 have hN:=hr.nm hn hz hc;have S:=hn.len;have hrl:=hr.len;k_extra"w";rename_i f hf;generalize M:upd Z' c (.L (rs.map .ref))=P at hf hN;have hsN:Sub Z P:=by rw[<- M];exact hs.trans (Sub.upd hc)
 have hcN:P c=some (.L (rs.map .ref)):=by rw[<- M];exact d6 _ _ _
 have hcf:c≠f:=j7 hcN hf;have hrsN:∀ (i:Nat) r,rs[i]?=some r->P r=some (.L ((nm.getD i []).map .int)):=λi r e=>by rw[<- M];exact i4 (hr.at' i r e) hc
 have w:(rs.map V.ref).length=rh.length:=by rw[aq,hrl,S]
 have hcl2:(rs.map V.ref).length<=10000:=by exact EY hz w
 refine Whl.g p (λm J' O=>∃ (F:List Int) (o3:Option V),Ordr rh F/\m=rh.length-F.length/\F.length<=rh.length/\w7 f P O/\O f=some (.L (F.map .int))/\
  J'=[some (.tup [.tup rh,.tup tb,x,y]),some (.ref c),some (.ref f),o3]) (rh.length-0) ⟨[],none,.nil,rfl,aY _,w7.upd,d6 _ _ _,rfl⟩ λcx p hB m hW=>?_
 rintro _ O Ja;refine Qx Ja λF o3 hF qa hFl hst U qb=>?_;clear Ja;rw[qa] at hW;subst qb
 have hFm:(F.map V.int).length=F.length:=aq _;have hFz:(F.map V.int).length<=10000:=by exact aj (aG hFm) (aj hFl (aj hz (by decide)))
 have hc'':=hst c _ hcf hcN;k_extra"w"
 ·rename_i C
  have C:F.length<rh.length:=by exact We w hFm C
  refine x3 p (λi J' E=>∃ (o3:Option V),(∀ k,k<i->D2 rh F k=false)/\w7 f P E/\E f=some (.L (F.map .int))/\J'=[some (.tup [.tup rh,.tup tb,x,y]),some (.ref c),some (.ref f),o3]) ⟨o3,λk hk=>absurd hk (dX _),hst,U,rfl⟩ (λcx p hB i hi hJ2=>?_) ?_
  ·k_extra"cR";subst qa
   k_extra"L";have hi':i<rh.length:=by exact nA w hi
   have hc3:=H c _ hcf hcN;obtain⟨r,hr'⟩:∃ r,rs[i]?=some r:=⟨_,ak (by exact Wm S hrl w hi)⟩
   have hrN:=hrsN i r hr';have hr3:=H r _ (j7 hrN hf) hrN;have hnl:(nm.getD i []).length<=100:=hN.len;k_extra"bN"
   k_extra"w"
   ·rename_i R
    exact hJ2 ⟨_,λk hk=>by
     try clear e0;try clear hrN;rcases jD.mp hk with q | rfl
     ·exact I k q
     ·unfold D2;rw[decide_eq_true R];rfl,H,A,rfl⟩
   ·rename_i R
    refine Idx.mk (by exact C1) (by exact Aa hi) (by exact ZR hz w hi) λx hx=>?_
    obtain rfl:x=.ref r:=by
     have e:(rs.map V.ref)[i]?=some (.ref r):=by rw[aB,hr'];rfl
     exact d7 (hx.symm.trans e)
    k_extra"w";refine CLoop.g p (λY Za Z4=>E=Z4/\∃ done L:List Int,nm.getD i []=done++L/\Y=L.map .int/\Za=(done.map λj=>decide (j∈F)).map V.bool) (by rw[aq];exact nq hnl) ⟨rfl,[],_,rfl,rfl,rfl⟩ (λcx p v Y Za hJ3 hN=>?_) ?_
    ·try clear hr';try clear hnl;try clear hx;try clear hN;rintro _ Ja;obtain⟨rfl,done,L,e,u,rfl⟩:=Ja
     refine⟨hr3,?_⟩;cases L with
     | nil=>cases u
     | cons j L=>
      refine d5 (List.cons.inj u) λe1 qa=>?_;rw[qa] at hJ3 u
      subst e1;k_extra"w";refine vQ (by k_extra"d") ?_
      exact hJ3 ⟨rfl,done++[j],L,by rw[e,bH];rfl,rfl,by rw[aN,aN];rfl⟩
    ·rintro Za _ Ja;obtain⟨rfl,done,L,e,u,rfl⟩:=Ja
     refine⟨hr3,λq hq=>?_⟩
     try clear hr3;obtain rfl:L=[]:=by cases L with | nil=>rfl | cons _ _=>cases u
     rw[bI] at e;refine AllB.mk _ (d6 _ _ _) ?_;have ea:(done.map λj=>decide (j∈F)).all id=(g6 8 (rh.getD i .none) (aa "line")).all (qL F):=by
      rw[<- hn.all hi',e,jC];rfl
     rw[ea];have hqf:f≠q:=j7 A hq;have hZf4:upd E q (.L ((done.map λj=>decide (j∈F)).map V.bool)) f=some (.L (F.map .int)):=i4 A hq
     have T:w7 f P (upd E q (.L ((done.map λj=>decide (j∈F)).map V.bool))):=H.sub (Sub.upd hq)
     k_extra"w"
     ·rename_i K
      have hs:D2 rh F i=true:=by unfold D2;rw[decide_eq_false R,K];rfl
      have hnext:U0 rh F=some i:=HR hi' hs I;exact hB (hW (j:=rh.length-(F++[(i:Int)]).length) (by rw[aK];exact vK C) ⟨F++[(i:Int)],_,.snoc hF hnext,rfl,by rw[aK];exact C,T.trans w7.upd,by rw[d6,aN];rfl,rfl⟩)
     ·rename_i K
      exact hJ2 ⟨_,λk hk=>by
       try clear u;try clear e;try clear hJ2;try clear hi';try clear R;try clear ea;rcases jD.mp hk with q | rfl
       ·exact I k q
       ·unfold D2;rw[K,gb],T,hZf4,rfl⟩
  ·k_extra"cR";try clear hk;subst qa
   refine d4 (Ov hn hacy C) λi hi=>?_
   refine d5 (qX hi) λh1 h2=>?_
   have h3:=I i (by rw[w];exact h1)
   rw[h2] at h3;try clear hi;try clear I;cases h3
 ·have hFe:F.length=rh.length:=by lia
  exact hB (p0.r (Kr hsN hst U) (h f F (j4 hsN hf) hF hFe))
end
theorem Vn{q c:Type}(f:q->c)(l:List q)(i:Nat):(l.map f).eraseIdx i=(l.eraseIdx i).map f:=by
 induction l generalizing i with
 | nil=>rfl
 | cons x l u=>cases i with
  | zero=>rfl
  | succ i=>exact congrArg (f x :: ·) (u i)
section
variable{g:G}{Q:V->Hp->Prop}
theorem md{k:Int}(h:0<k):0<=x%k/\x%k<k:=⟨dh _ (iM h),dH _ h⟩
theorem Mj(N:Nm g)(hD:1<=D){u:Int}(I:7<=u)(F:u<=40)(h:∀ m t c,1<=m->m<=u->0<=t->t<=5->0<=c->c<=8->Q (.tup [.int m,.int t,.int c]) Z):d8 g D true "_law_sizes" [.int q,.int u] Z Q X:=by
 refine bd N Yo (by k_extra"b") hD λcx p=>?_
 have H:∀ m t:Int,1<=m->m<=u->0<=t->t<=5->Bw.w true l6 cx [] [some (.int q),some (.int u),some (.int m),some (.int t),none] Z:=λm t y L w T=>by
  have E:=md (x:=q / 88128) (k:=4) (by decide)
  have C:=md (x:=q / 2820096) (k:=5) (by decide)
  k_extra"w"
  ·exact p.h (h _ _ _ y L w T (by exact iW (by decide) (dh _ (by decide))) (by lia))
  ·exact p.h (h _ _ _ y L w T (dh _ (by decide)) (by exact aW (eU (dH _ (by decide))) (by decide)))
 have A:∀ m:Int,1<=m->m<=u->Dd.w true l6 cx [] [some (.int q),some (.int u),some (.int m),none,none] Z:=λm y L=>by
  have E:=md (x:=q / 1224) (k:=3) (by decide)
  have C:=md (x:=q / 29376) (k:=3) (by decide)
  k_extra"w"
  ·exact Stop.mk (H _ _ y L (by exact iW (by decide) (dh _ (by decide))) (by lia))
  ·exact Stop.mk (H _ _ y L (dh _ (by decide)) (by exact aW (eU (dH _ (by decide))) (by decide)))
 have E:=md (x:=q) (k:=6) (by decide)
 have C:=md (x:=q / 36) (k:=u-6) (by exact jj I)
 k_extra"w"
 ·exact Stop.mk (A _ (QZ C) (XM C))
 ·exact Stop.mk (A _ (by exact aW (by decide) (Int.add_le_add_left (dh _ (by decide)) _)) (by lia))
structure Prm(n:Nat)(O:List Int):Prop where
 len:O.length=n
 nd:O.Nodup
 rng:∀ x∈O,0<=x/\x<n
theorem zF(n:Nat):m7 0 1 n=((bh n).map fun(i:Nat)=>(i:Int)).map V.int:=by
 unfold m7;rw[cR];refine dN λi N=>?_
 show V.int (0+(i:Int)*1)=V.int i;rw[bJ,Int.mul_one]
theorem Jr{l:List Int}(h:l[k]?=some x)(c:l.Nodup):x∉l.eraseIdx k/\(l.eraseIdx k).Nodup/\(∀ y,y∈l.eraseIdx k->y∈l)/\(l.eraseIdx k).length+1=l.length:=by
 obtain⟨K,rfl⟩:=aF.mp h;refine⟨λq=>?_,c.sublist (List.eraseIdx_sublist _ _),λy I=>List.mem_of_mem_eraseIdx I,by rw[List.length_eraseIdx,if_pos K];exact jd (bA (aY _) K)⟩
 refine a7 (List.mem_eraseIdx_iff_getElem?.mp q) λj P e=>?_
 obtain⟨w,u⟩:=aF.mp e;exact P ((jr c).mp u)
theorem cl1{s:Addr}{A:AObj}:upd (upd (upd (upd (upd (upd Z s x) a y) b z) s q) a u) b A=upd (upd (upd Z s q) a u) b A:=funext λc=>by
 by_cases Za:c=b
 ·rw[Za,d6,d6]
 rw[e8 _ _ Za,e8 _ _ Za];by_cases S:c=a
 ·rw[S,d6,d6]
 rw[e8 _ _ S,e8 _ _ S];by_cases L:c=s
 ·rw[L,d6,d6]
 rw[e8 _ _ L,e8 _ _ Za,e8 _ _ S,e8 _ _ L,e8 _ _ L]
set_option tactic.hygienic true in
theorem JC(N:Nm g)(hD:2<=D){n:Int}{many:Nat}(M:0<=n)(Za:n<2147483647)(hz:many<=100)(h:∀ b O E,b≠st->Z b=none->Prm many O->0<=E->E<2147483647->Q (.ref b) (upd (upd Z st (.L [.int E])) b (.L (O.map .int)))) :
  d8 g D true "_law_order" [.ref st,.int many] (upd Z st (.L [.int n])) Q X:=by
 refine bd N Uu (by k_extra"b") hD λcx p=>?_
 k_extra"w";rename_i a ha b hb;refine d5 (j3 ha) λH R=>d5 (j3 hb) λF mZ=>?_
 refine d5 (j3 mZ) λJa P=>?_
 have lh:(m7 0 1 (many:Int).toNat).length=many:=by rw[show(many:Int).toNat=many from rfl,zF,aq,aq,bO]
 rw[show(many:Int).toNat=many from rfl,zF]
 have p0:=p;refine Whl.g p (λm J' Z'=>∃ (L O:List Int) (n:Int),m=L.length/\L.length+O.length=many/\O.Nodup/\L.Nodup/\(∀ x∈O,x∉L)/\(∀ x,x∈O∨x∈L->0<=x/\x<many)/\0<=n/\n<2147483647/\Z'=upd (upd (upd Z st (.L [.int n])) a (.L (L.map .int))) b (.L (O.map .int))/\
  J'=[some (.ref st),some (.int many),some (.ref a),some (.ref b)]) many ⟨_,[],n,?_,?_,.nil,?_,λx U=>(by cases U),?_,M,Za,rfl,rfl⟩ λcx p hB m hW=>?_
 ·rw[aq,bO]
 ·rw[aq,bO];rfl
 ·exact List.Pairwise.map _ (λa b c e=>c (Int.ofNat.inj e)) ir
 ·rintro x (U | U)
  ·cases U
  ·refine a7 (aM.mp U) λi hi qa=>?_;subst qa
   exact⟨bB i,aQ.mpr (bY.mp hi)⟩
 ·rintro _ _ hh;obtain⟨L,O,n,rfl,Y,hO,hL,S,A,M,Za,rfl,rfl⟩:=hh
  have K:(L.map V.int).length=L.length:=aq _;have hl2:(O.map V.int).length=O.length:=aq _;have c:=F;k_extra"w"
  ·rename_i C
   refine H1 p.N (p.dd (by decide)) (n:=n) (by k_extra"h") M Za (C) (by lia) λr E hr0 hr1 hn T=>?_
   k_extra"w";intro x U;rw[aB] at U;refine a7 (aR.mp U) λy I qa=>?_;clear K;subst qa
   refine G6 (Jr I hL) λe1 e2 e3 e4=>?_
   k_extra"w";refine hW (j:=(L.eraseIdx r.toNat).length) (by lia) ⟨L.eraseIdx r.toNat,O++[y],E,rfl,by rw[aK];show _+(O.length+1)=_;lia,?_,e2,?_,?_,hn,T,?_,rfl⟩
   ·refine cA.mpr ⟨hO,by simp,λu hu w hw q=>?_⟩
    rw[aA.mp hw] at q;exact S u hu (q▸aL I)
   ·intro u hu q
    rcases aH.mp hu with hu | hu
    ·exact S u hu (e3 u q)
    ·rw[aA.mp hu] at q;exact e1 q
   ·rintro u (hu | hu)
    ·rcases aH.mp hu with hu | hu
     ·exact A u (.inl hu)
     ·rw[aA.mp hu];exact A y (.inr (aL I))
    ·exact A u (.inr (e3 u hu))
   ·rw[Vn,cl1,aN];rfl
  ·clear hW;clear hL;clear S;obtain rfl:L=[]:=cY.mp (by lia)
   refine hB (p0.r ?_ (h b O n Ja P ⟨by simpa using Y,hO,λx U=>A x (.inl U)⟩ M Za))
   exact E9 (Sub.upd (by rw[e8 _ _ H];exact R))
end
noncomputable def v3(p:Int×Int×Int):V:=.tup [.int p.1,.int p.2.1,.int p.2.2]
structure RowB(p:Int×Int×Int):Prop where
 a0:0-1000000000<=p.1
 a1:p.1<=1000000000
 b0:0-1000000000<=p.2.1
 b1:p.2.1<=1000000000
 c0:0<=p.2.2
 c1:p.2.2<=100
theorem RowB.ok(h:RowB p):t9 (v3 p)=true:=by
 show(f9 (.int p.1) _ _&&(f9 (.int p.2.1) _ _&&f9 (.int p.2.2) _ _))=true;rw[r8 h.a0 h.a1,r8 h.b0 h.b1,r8 h.c0 h.c1];rfl
theorem YL(p:Int×Int×Int):Cld Z (v3 p):=.t3 (.int _) (.int _) (.int _)
theorem Wo{R:List (Int×Int×Int)}(Za:1<=R.length)(u:R.length<=20)(S:∀ p∈R,RowB p)(hp:R.Pairwise (λp q=>p.1<q.1)):u8 (.tup (R.map v3))=true:=by
 show((decide (1<=(R.map v3).length)&&decide ((R.map v3).length<=20))&&((R.map v3).all t9&&(bh ((R.map v3).length-1)).all (E1 (R.map v3))))=true;rw[aq,decide_eq_true Za,decide_eq_true u];have E:(R.map v3).all t9=true:=by
  rw[bc];intro x hx;refine a7 (aM.mp hx) λp hp qa=>?_;subst qa
  exact(S p hp).ok
 rw[E];show(bh (R.length-1)).all _=true;rw[bc];intro k K;have K:k<R.length-1:=bY.mp K;have C:k<R.length:=aX K (Nat.sub_le _ _);have c:k+1<R.length:=Nat.add_lt_of_lt_sub K;unfold E1;have w:(R.map v3)[k]?=some (v3 R[k]):=by rw[aB,ak C];rfl
 have y:(R.map v3)[k+1]?=some (v3 R[k+1]):=by rw[aB,ak c];rfl
 rw[qg w,qg y];exact decide_eq_true (gC.mp hp k (k+1) C c (dO k))
def m9(a b:Addr)(Z Z':Hp):Prop:=∀ c o,c≠a->c≠b->Z c=some o->Z' c=some o
theorem m9.trans(h:m9 a b Z q)(k:m9 a b q S):m9 a b Z S:=λc o Za u e=>k c o Za u (h c o Za u e)
theorem m9.l:m9 a b Z (upd Z a x):=λc o Za N e=>by rw[e8 _ _ Za];exact e
theorem m9.r:m9 a b Z (upd Z b x):=λc o N S e=>by rw[e8 _ _ S];exact e
section
variable{g:G}{Q:V->Hp->Prop}
theorem uq(N:Nm g)(hD:2<=D)(hst:Z st=some (.L [.int n]))(M:0<=n)(Za:n<2147483647)(h:∀ r c,-1000000000<=r->r<=1000000000->0<=c->c<2147483647->Q (.int r) (upd Z st (.L [.int c]))):d8 g D true "_law_number" [.ref st] Z Q X:=by
 have:=Ew (Z:=Z) (Q:=Q) (X:=X) N hD (st:=st) M Za h;k_extra"bj"
open Internal renaming H1->y16,uq->y17
theorem cz1:True:=by
 k_with"c"=>first | (refine y16 p.N (by k_extra"d") (by k_extra"h") (by assumption) (by assumption) (by k_extra"n") (by k_extra"n") ?_;intro _ _ _ _ _ _) | (refine y17 p.N (by k_extra"d") (by k_extra"h") (by assumption) (by assumption) ?_;intro _ _ _ _ _ _)
 trivial
theorem Cg(p:Pk pq tab g 2 Q X cx){s:Int}(L:w≠st)(A:Z st=some (.L [.int n]))(P:Z w=some (.L R))(C:R.length<=100)(M:0<=n)(Za:n<2147483647)
  (hq:∀ q s' x Z',-1000000000<=q->q<=1000000000->s+1<=s'->s'<=s+20000->0<=x->x<2147483647->Z' st=some (.L [.int x])->Z' w=some (.L (R++[.tup [.int s,.int q,.int u]]))->m9 st w Z Z'->
   K cx y [some (.ref st),some many,some (.int s'),some (.ref w),some (.int k),some (.int u)] Z') :
  vN.w true K cx y [some (.ref st),some many,some (.int s),some (.ref w),some (.int k),some (.int u)] Z:=by
 have c:=Ne.symm L;k_extra"w"
 ·k_extra"J"
 ·k_extra"J"
end
section
variable{g:G}{Q:V->Hp->Prop}
theorem Ym(Za:m9 st c Z Z')(S:Z' st=some o)(L:Z c=none):Sub (upd Z st o) Z':=λa U e=>by
 by_cases q:a=st
 ·subst q;rw[d6] at e;rw[S];exact e
 ·rw[e8 _ _ q] at e
  exact Za a U q (λq=>by rw[q,L] at e;cases e) e
open Internal renaming H1->y18,uq->y19
theorem cy1:True:=by
 k_with"c"=>first | (refine y18 p.N (by k_extra"d") (by k_extra"h") (by assumption) (by assumption) (by k_extra"n") (by k_extra"n") ?_;intro _ _ _ _ _ _) | (refine y19 p.N (by k_extra"d") (by k_extra"h") (by assumption) (by assumption) ?_;intro _ _ _ _ _ _)
 trivial
def Ba(st x:Addr)(Z:Hp)(s:Int)(many:Nat)(i:Nat)(w:Lo)(Z':Hp):Prop:=
 ∀ y:Prop,(∀ (R:List (Int×Int×Int)) (c u:Int) (E F:Option V) (hl:R.length=i) (Y:∀ p∈R,RowB p) (M:R.Pairwise (λp q=>p.1<q.1)) (C:∀ p∈R,p.1<c) (Ja:s<=c) (Za:c<=s+20000*i) (I:0<=u) (T:u<2147483647)
  (A:Z' st=some (.L [.int u])) (P:Z' x=some (.L (R.map v3))) (H:m9 st x Z Z') (e:w=[some (.ref st),some (.int many),some (.int c),some (.ref x),E,F]),y)->y
set_option tactic.hygienic true in
theorem Vp(p:Pk pq tab g 2 Q X cx){n s:Int}{many:Nat}(K:Z st=some (.L [.int n]))(h0:0<=n)(h1:n<2147483647)(O:1<=many)(w:many<=20)(S:0-1000000000<=s)(hs1:s+20000*many<=1000000000)
  (h:∀ t E,u8 t=true->(∀ Z,Cld Z t)->0<=E->E<2147483647->Q t (upd Z st (.L [.int E]))) :
  rJ.w true l6 cx [] [some (.ref st),some (.int many),some (.int s),none,none,none] Z:=by
 k_extra"w";rename_i H P;have hne:H≠st:=λe=>by rw[e,K] at P;cases P
 refine x3 p (Ba st H Z s many) (λ_ U=>U [] s n none none rfl (λp M=>(by cases M)) .nil (λp M=>(by cases M)) (gR _) (by exact Int.le.intro (20000*0) rfl) h0 h1 (i4 K P) (d6 _ _ _) m9.r rfl) (λcx p hB i hi hJ=>?_) ?_
 ·k_extra"bb"
  have hRl:(R.map v3).length<=100:=by rw[aq];lia
  have fin:∀ u num s2 n2 Z3 L F,0<=u->u<=100->-1000000000<=num->num<=1000000000->A+1<=s2->s2<=A+20000->0<=n2->n2<2147483647->Z3 st=some (.L [.int n2])->Z3 H=some (.L (R.map v3++[.tup [.int A,.int num,.int u]]))->m9 st H Z Z3->
    Ba st H Z s many (i+1) [some (.ref st),some (.int many),some (.int s2),some (.ref H),L,F] Z3:=λu num s2 n2 Z3 L F c p1 q0 q1 q2 q3 q4 q5 q6 q7 q8=>by
   refine(λ_ U=>U (R++[(A,num,u)]) s2 n2 _ _ (by rw[aK,hl];rfl) (λp hp'=>?_) (lq.mpr ⟨M,by simp,λp hp' q hq=>by rw[aA.mp hq];exact C p hp'⟩) (λp hp'=>?_) (by lia) (by lia) q4 q5 q6 (by rw[q7,aN];rfl) q8 rfl)
   ·rcases aH.mp hp' with q | q
    ·exact Y p q
    ·rw[aA.mp q];exact⟨by show _<=A;exact aW S hs,by show A<=_;lia,by show _<=num;exact q0,by show num<=_;exact q1,c,p1⟩
   ·rcases aH.mp hp' with q | q
    ·have:=C p q;exact cL this q2
    ·rw[aA.mp q];show A<s2;exact q2
  k_extra"w"
  ·k_extra"B"
  ·k_extra"B"
  ·rename_i u _ c p1 _ _ _ _ _ _ _ _ _
   exact Stop.mk (Cg p hne (d6 _ _ _) (by k_extra"h") hRl (by assumption) (by assumption) λnum s2 n2 Z3 q0 q1 q2 q3 q4 q5 q6 q7 q8=>(hJ (fin _ num s2 n2 Z3 _ _ c (by exact cI p1) q0 q1 q2 q3 q4 q5 q6 q7 (((hSt.trans m9.l).trans m9.l).trans q8))))
 ·k_extra"bb"
  have hl:R.length=many:=by rw[hl];exact xx
  have hRl:(R.map v3).length<=10000:=by rw[aq];exact aj (aG hl) (aj w (by decide))
  k_extra"w";refine p.r (Ym hSt y P) (h _ E (Wo (by exact le_of_le_of_eq O (id (jq hl))) (by exact le_of_eq_of_le hl w) Y M) (λZ=>.tup (by rw[aq];exact aj (aG hl) (aj w (by decide))) λx hx=>?_) hn T)
  refine a7 (aM.mp hx) λp _ qa=>?_;subst qa
  exact YL p
end
section
variable{g:G}{Q:V->Hp->Prop}
open Internal renaming P9->y20
theorem cy6:True:=by
 k_with"c"=>(refine y20 p.N (by k_extra"d") (by k_extra"n") (by k_extra"n") (by k_extra"n") (by k_extra"n") ?_;intro _ _ _ _ _ _)
 trivial
theorem Jl(N:Nm g)(hD:3<=D){n:Int}(M:0<=n)(Za:n<2147483647)(h:∀ t c,u8 t=true->(∀ Z,Cld Z t)->0<=c->c<2147483647->Q t (upd Z st (.L [.int c]))) :
  d8 g D true "_law_table" [.ref st] (upd Z st (.L [.int n])) Q X:=by
 refine bd N bD4 (by k_extra"b") hD λcx p=>?_
 have E:∀ (n s m:Int),0<=n->n<2147483647->1<=m->m<=20->0-1000000000<=s->s+20000*m<=1000000000->rJ.w true l6 cx [] [some (.ref st),some (.int m),some (.int s),none,none,none] (upd Z st (.L [.int n])):=λn s m w T q x F A=>by
  obtain⟨m,rfl⟩:=bM (show 0<=m by lia)
  refine Vp p (d6 _ _ _) w T (by exact qM q) (by exact xG x) F A λt c C H u I=>?_
  rw[S0];exact h t c C H u I
 have y:∀ (n m:Int),0<=n->n<2147483647->1<=m->m<=20->yq.w true l6 cx [] [some (.ref st),some (.int m),none,none,none,none] (upd Z st (.L [.int n])):=λn m w T q x=>by
  k_extra"w";all_goals exact Stop.mk (E _ _ _ (by assumption) (by assumption) q x (by lia) (by lia))
 k_extra"w"
 ·exact Stop.mk (y _ _ (by assumption) (by assumption) (by lia) (by lia))
 ·exact Stop.mk (y _ _ (by assumption) (by assumption) (by exact Bs (by assumption)) (by lia))
end
theorem B2(Za:siz w=some ((args.length:Int)+1))(S:fit z w args=true)(L:∀ x∈g9 w args,ok z n x=true):ok z (n+1) (.tup (.str w::args))=true:=by
 show((siz w==some ((args.length:Int)+1))&&fit z w args&&(g9 w args).all (ok z n))=true;rw[Za,S,bc.mpr L,beq_self_eq_true];rfl
theorem GR.mono(A:∀ i,u i->q i)(Za:∀ x,L x->w x)(h:GR z u L d r):GR z q w d r:=by
 induction h with
 | num a b=>exact .num a b
 | line a=>exact .line (A _ a)
 | earlier a b=>exact .earlier a b
 | paper a=>exact .paper (Za _ a)
 | part _ a b y=>exact .part y a b
 | table _ a b y=>exact .table y a b
 | twol a _ _ Y M=>exact .twol a Y M
 | twor a _ _ Y M=>exact .twor a Y M
 | wherl _ _ _ Y M c=>exact .wherl Y M c
 | wherr _ _ _ Y M c=>exact .wherr Y M c
 | chol a b _ _ Y M=>exact .chol a b Y M
 | chor a b _ _ Y M=>exact .chor a b Y M
theorem V1{l:List V}{P:V->Prop}(e:l=[a])(h:P a)(U:x∈l):P x:=by subst e;rw[aA.mp U];exact h
theorem G8{b:V}{l:List V}{P:V->Prop}(e:l=[a,b])(M:P a)(Y:P b)(hx:x∈l):P x:=by
 subst e;k_extra"aH"
 ·exact M
 ·exact V1 rfl Y hx
theorem pY{c:V}{l:List V}{P:V->Prop}(e:l=[a,b,c])(M:P a)(Y:P b)(O:P c)(hx:x∈l):P x:=by
 subst e;k_extra"aH"
 ·exact M
 ·exact G8 rfl Y O hx
theorem An(a:w∈[("add" : Str),"take","least","most"]):fit z w l=true:=by
 k_extra"ba"
 k_extra"ce"
 ·exact Dk _ _
 ·exact xq _ _
 ·exact wL _ _
 ·exact xn _ _
theorem GR.ok{z:Lim}(w:∀ i,q i->0<=i/\i<z.L)(Za:∀ x,L x->m8 x=true)(h:GR z q L d r):∀ {n:Nat},d<=n->Internal.ok z n r=true:=by
 induction h with
 | num a b=>intro n hn;refine a7 (r5 hn) λn qa hk=>?_;subst qa;exact B2 JL (by rw[pW];exact r8 a b) λx U=>by rw[sI] at U;cases U
 | line a=>intro n hn;refine a7 (r5 hn) λn qa hk=>?_;subst qa;exact B2 Nq (by rw[X6];exact r8 (w _ a).1 (cI (w _ a).2)) λx U=>by rw[vB] at U;cases U
 | earlier a b=>intro n hn;refine a7 (r5 hn) λn qa hk=>?_;subst qa;exact B2 WT (by rw[pI];exact r8 a (cI b)) λx U=>by rw[sS] at U;cases U
 | paper a=>intro n hn;refine a7 (r5 hn) λn qa hk=>?_;subst qa;exact B2 bp2 (by rw[oH];exact Za _ a) λx U=>by rw[uA] at U;cases U
 | part _ a b u=>intro n hn;refine a7 (r5 hn) λn qa hk=>?_;subst qa;exact B2 FQ (by rw[oY];exact r8 a b) λx U=>V1 (P:=λx=>Internal.ok z n x=true) (K2 _) (u hk) U
 | table _ a b u=>intro n hn;refine a7 (r5 hn) λn qa hk=>?_;subst qa;exact B2 Gx (by rw[pD];exact r8 a (cI b)) λx U=>V1 (P:=λx=>Internal.ok z n x=true) (K1 _) (u hk) U
 | twol a _ _ Y M=>intro n hn;refine a7 (r5 hn) λn qa hk=>?_;subst qa;exact B2 (yR a) (An a) λx U=>G8 (P:=λx=>Internal.ok z n x=true) (M7 a) (Y hk) (M (aj (cB _ _) hk)) U
 | twor a _ _ Y M=>intro n hn;refine a7 (r5 hn) λn qa hk=>?_;subst qa;exact B2 (yR a) (An a) λx U=>G8 (P:=λx=>Internal.ok z n x=true) (M7 a) (Y (aj (cB _ _) hk)) (M hk) U
 | wherl _ _ _ Y M c=>intro n hn;refine a7 (r5 hn) λn qa hk=>?_;subst qa;exact B2 Dw (qU _ _) λx U=>pY (P:=λx=>Internal.ok z n x=true) (C2 _) (Y hk) (M (aj (cB _ _) hk)) (c (aj (cB _ _) hk)) U
 | wherr _ _ _ Y M c=>intro n hn;refine a7 (r5 hn) λn qa hk=>?_;subst qa;exact B2 Dw (qU _ _) λx U=>pY (P:=λx=>Internal.ok z n x=true) (C2 _) (Y (aj (cB _ _) hk)) (M hk) (c (aj (cB _ _) hk)) U
 | chol a b _ _ Y M=>intro n hn;refine a7 (r5 hn) λn qa hk=>?_;subst qa;exact B2 Ax (by rw[Y2];exact r8 a (cI b)) λx U=>G8 (P:=λx=>Internal.ok z n x=true) (D0 _) (Y hk) (M (aj (cB _ _) hk)) U
 | chor a b _ _ Y M=>intro n hn;refine a7 (r5 hn) λn qa hk=>?_;subst qa;exact B2 Ax (by rw[Y2];exact r8 a (cI b)) λx U=>G8 (P:=λx=>Internal.ok z n x=true) (D0 _) (Y (aj (cB _ _) hk)) (M hk) U
set_option tactic.hygienic true in
theorem B1(h:y∈g6 n (.tup (.str w::args)) u):(w=u/\y=arg args 0)∨∃ m,n=m+1/\∃ x∈g9 w args,y∈g6 m x u:=by
 cases n with
 | zero=>cases h
 | succ n=>
  simp only[I8,aH,il,aM] at h
  rcases h with h | ⟨_,⟨r,A,rfl⟩,h⟩
  ·split at h
   ·rename_i e;exact .inl ⟨beq_iff_eq.mp e,aA.mp h⟩
   ·cases h
  ·exact .inr ⟨n,rfl,r,A,h⟩
theorem GR.line_see{L:Str->Prop}{d:Nat}{r:V}(h:GR z c L d r):∀ {n:Nat},∀ y∈g6 n r (aa "line"),∃ i,y=.int i/\c i:=by
 have two:∀ {w:Str},w∈[("add" : Str),"take","least","most"]->w≠aa "line":=fun{w} a e=>by subst e;revert a;decide +kernel
 induction h with
 | num a b=>intro n y hy;rcases B1 hy with ⟨e,-⟩ | ⟨m,-,x,hx,-⟩;exact absurd e (by k_extra"#");rw[sI] at hx;cases hx
 | line a=>intro n y hy;rcases B1 hy with ⟨-,e⟩ | ⟨m,-,x,hx,-⟩;exact⟨_,e,a⟩;rw[vB] at hx;cases hx
 | earlier a b=>intro n y hy;rcases B1 hy with ⟨e,-⟩ | ⟨m,-,x,hx,-⟩;exact absurd e (by k_extra"#");rw[sS] at hx;cases hx
 | paper a=>intro n y hy;rcases B1 hy with ⟨e,-⟩ | ⟨m,-,x,hx,-⟩;exact absurd e (by k_extra"#");rw[uA] at hx;cases hx
 | part _ a b u=>intro n y hy;rcases B1 hy with ⟨e,-⟩ | ⟨m,-,x,hx,q⟩;exact absurd e (by k_extra"#");exact V1 (P:=λx=>y∈g6 m x _->_) (K2 _) (u y) hx q
 | table _ a b u=>intro n y hy;rcases B1 hy with ⟨e,-⟩ | ⟨m,-,x,hx,q⟩;exact absurd e (by k_extra"#");exact V1 (P:=λx=>y∈g6 m x _->_) (K1 _) (u y) hx q
 | twol a _ _ i1 i2=>intro n y hy;rcases B1 hy with ⟨e,-⟩ | ⟨m,-,x,hx,q⟩;exact absurd e (two a);exact G8 (P:=λx=>y∈g6 m x _->_) (M7 a) (i1 y) (i2 y) hx q
 | twor a _ _ i1 i2=>intro n y hy;rcases B1 hy with ⟨e,-⟩ | ⟨m,-,x,hx,q⟩;exact absurd e (two a);exact G8 (P:=λx=>y∈g6 m x _->_) (M7 a) (i1 y) (i2 y) hx q
 | wherl _ _ _ i1 i2 i3=>intro n y hy;rcases B1 hy with ⟨e,-⟩ | ⟨m,-,x,hx,q⟩;exact absurd e (by k_extra"#");exact pY (P:=λx=>y∈g6 m x _->_) (C2 _) (i1 y) (i2 y) (i3 y) hx q
 | wherr _ _ _ i1 i2 i3=>intro n y hy;rcases B1 hy with ⟨e,-⟩ | ⟨m,-,x,hx,q⟩;exact absurd e (by k_extra"#");exact pY (P:=λx=>y∈g6 m x _->_) (C2 _) (i1 y) (i2 y) (i3 y) hx q
 | chol a b _ _ i1 i2=>intro n y hy;rcases B1 hy with ⟨e,-⟩ | ⟨m,-,x,hx,q⟩;exact absurd e (by k_extra"#");exact G8 (P:=λx=>y∈g6 m x _->_) (D0 _) (i1 y) (i2 y) hx q
 | chor a b _ _ i1 i2=>intro n y hy;rcases B1 hy with ⟨e,-⟩ | ⟨m,-,x,hx,q⟩;exact absurd e (by k_extra"#");exact G8 (P:=λx=>y∈g6 m x _->_) (D0 _) (i1 y) (i2 y) hx q
structure FG(rh tb:List V)(C ow:Int)(rk:Int->Nat):Prop where
 gr:∀ (i:Nat) r,rh[i]?=some r->GR ⟨rh.length,tb.length,C⟩ (λj=>(0<=j/\j<rh.length)/\rk j<rk i) (λx=>m8 x=true) 8 r
 l1:1<=rh.length
 l40:rh.length<=40
 t5:tb.length<=5
 tab:∀ t∈tb,u8 t=true/\∀ Z,Cld Z t
 c0:0<=C
 c8:C<=8
 o0:0<=ow
 o1:ow<rh.length
theorem FG.form(h:FG rh tb C q rk):FormOK rh tb C q:=by
 refine⟨λr A=>?_,h.l1,h.l40,h.t5,h.tab,h.c0,h.c8,h.o0,h.o1,λnm y=>⟨rk,?_⟩⟩
 ·refine d4 (fX.mp A) λi w=>?_
  have E:=h.gr i r w;have K:=E.ok (λj P=>P.1) (λx U=>U) (aV 8)
  exact⟨K,λu=>E.few.lt u K,λZ=>E.cld λx U=>U⟩
 ·have c:∀ (i:Nat),∀ j∈nm.getD i [],(0<=j/\j<(rh.length:Int))/\rk j<rk i:=λi j P=>by
   by_cases w:i<rh.length
   ·have F:=y.iff i _ _ (C3 (x:=[]) (y.len▸w)) (C3 (x:=.none) w)
    refine a7 ((h.gr i _ (C3 (x:=.none) w)).line_see _ ((F _).mp (aM.mpr ⟨j,P,rfl⟩))) λk e K=>?_
    rw[V.int.inj e];exact K
   ·rw[aP,cO (by rw[y.len];exact bU w)] at P;cases P
  exact⟨λi j P=>by rw[y.len];exact(c i j P).1,λi j P=>(c i j P).2⟩
theorem j9(h:a≠b):a∉[b]:=λq=>h (aA.mp q)
def e9(A:List Addr)(Z Z':Hp):Prop:=∀ c o,c∉A->Z c=some o->Z' c=some o
theorem e9.refl{A:List Addr}:e9 A Z Z:=λN N N e=>e
theorem e9.trans{A:List Addr}(h:e9 A Z q)(k:e9 A q S):e9 A Z S:=λc o Za e=>k c o Za (h c o Za e)
theorem e9.upd{A:List Addr}(h:a∈A):e9 A Z (Internal.upd Z a x):=λc o Za e=>by rw[e8 Z x (fun(q:c=a)=>Za (by rw[q];exact h))];exact e
theorem e9.new{A:List Addr}(h:Z a=none):e9 A Z (Internal.upd Z a x):=λc o Za e=>Sub.upd h _ _ e
theorem e9.sub{A:List Addr}(h:e9 A Z u)(R:∀ a∈A,Z a=none):Sub Z u:=λc o e=>h c o (λq=>by rw[R c q] at e;cases e) e
section
variable{g:G}{Q:V->Hp->Prop}
theorem J9(N:Nm g)(hD:12<=D)(S:Src Z st u w z seen ws)(m:Nat)(hst:Z st=some (.L [.int n]))(x:e=((m+1:Nat):Int))(q:m<8)(M:0<=n)(Za:n<2147483647)
  (h:∀ r c,GR z (·∈seen) (·∈ws) (m+1) r->0<=c->c<2147483647->Q r (upd Z st (.L [.int c]))) :
  d8 g D true "_law_rule" [.ref st,.int e,.ref u,.tup [.int z.L,.int z.T,.int z.C],.ref w] Z Q X:=by
 have:=Im (X:=X) S m (Q:=Q) N (aj (cQ (cz q) 5) hD) x q M Za h;k_extra"bj"
theorem bJ8(N:Nm g)(hD:2<=D)(hst:Z st=some (.L [.int n]))(M:0<=n)(Za:n<2147483647)(hz:many<=100)(h:∀ b O c,b≠st->Z b=none->Prm many O->0<=c->c<2147483647->Q (.ref b) (upd (upd Z st (.L [.int c])) b (.L (O.map .int)))) :
  d8 g D true "_law_order" [.ref st,.int many] Z Q X:=by
 have:=JC (X:=X) N hD (st:=st) M Za hz h;k_extra"bj"
theorem bV8(N:Nm g)(hD:3<=D)(hst:Z st=some (.L [.int n]))(M:0<=n)(Za:n<2147483647)(h:∀ t c,u8 t=true->(∀ Z,Cld Z t)->0<=c->c<2147483647->Q t (upd Z st (.L [.int c]))) :
  d8 g D true "_law_table" [.ref st] Z Q X:=by
 have:=Jl (X:=X) N hD (st:=st) M Za h;k_extra"bj"
def FmJ(P st I u S:Addr)(q:Int)(z:Lim)(m:Nat)(ws:List Str)(O:List Int)(Z:Hp)(rest:List V)(w:Lo)(Z':Hp):Prop:=
 ∀ A:Prop,(∀ (done L:List Int) (n:Int) (R:List V) (K c:Option V) (E:O=done++L) (C:rest=L.map .int) (H:Z' st=some (.L [.int n])) (M:0<=n) (Za:n<2147483647) (y:Z' I=some (.L R)) (T:R.length=m) (F:Z' u=some (.L (done.map .int)))
  (Ja:∀ (i:Nat) r,(i:Int)∈done->R[i]?=some r->GR z (λj=>(0<=j/\j<m)/\O.idxOf j<O.idxOf (i:Int)) (λx=>m8 x=true) 8 r) (U:e9 [st,I,u] Z Z')
  (e:w=[some (.ref P),some (.int q),some (.ref st),some (.tup [.int z.L,.int z.T,.int z.C]),some (.ref S),some (.ref I),some (.ref u),K,c,none]),A)->A
set_option tactic.hygienic true in
theorem Bo(p:Pk pq tab g 12 Q X cx){A U:Addr}{z:Lim}{m:Nat}{seen:List Int}{R:List V}(M:Z st=some (.L [.int n]))(h0:0<=n)(h1:n<2147483647)(y:Z I=some (.L R))(Za:Z A=some (.L (seen.map .int)))(hwl:Z U=some (.L (ws.map .str)))
  (n1:I≠st) (n2:A≠st) (n3:I≠A) (n4:U≠st) (Y:1<=c) (C:c<=8) (hzL:1<=z.L) (O:z.L<=100) (hzT:0<=z.T) (L:z.T<=100) (hzC:0<=z.C) (S:z.C<=100) (hs:seen.length<=100) (hw1:1<=ws.length) (hw2:ws.length<=100) (hx:x<R.length) (hR:R.length<=100)
  (hq:∀ r P Z',GR z (·∈seen) (·∈ws) 8 r->0<=P->P<2147483647->Z' st=some (.L [.int P])->Z' I=some (.L (R.set x r))->Z' A=some (.L ((seen++[(x:Int)]).map .int))->e9 [st,I,A] Z Z'->
   K cx sk [some (.ref sa),some (.int w),some (.ref st),some (.tup [.int z.L,.int z.T,.int z.C]),some (.ref U),some (.ref I),some (.ref A),some (.int x),some (.int c),o9] Z') :
  Ag.w true K cx sk [some (.ref sa),some (.int w),some (.ref st),some (.tup [.int z.L,.int z.T,.int z.C]),some (.ref U),some (.ref I),some (.ref A),some (.int x),some (.int c),o9] Z:=by
 have n1':=Ne.symm n1;have n2':=Ne.symm n2;have n3':=Ne.symm n3;have E:(seen.map V.int).length<=100:=by rw[aq];exact hs
 have Ja:(ws.map V.str).length=ws.length:=aq _;k_extra"w";rename_i q u;have H:q≠st:=λe=>by rw[e,M] at u;cases u
 have hqla:I≠q:=j7 y u;have hqsl:A≠q:=j7 Za u;obtain⟨m',F⟩:∃ m':Nat,c=((m'+1:Nat):Int):=⟨(c-1).toNat,by rw[Int.natCast_add,bQ (iI (by exact Y))];exact(Int.sub_add_cancel c 1).symm⟩
 refine J9 p.N (p.dd (by decide)) (seen:=seen) (ws:=ws) ⟨d6 _ _ _,H,i4 hwl u,n4,E,by rw[Ja];exact hw2,by rw[Ja];exact hw1,hzL,O,hzT,L,hzC,S⟩ m' (i4 M u) F (by exact bH5 C F) h0 h1 λr P hr hn T=>?_
 k_extra"w";refine hq r P _ (hr.le (by exact Oo C F)) hn T ?_ ?_ ?_ ?_
 ·rw[e8 _ _ n2',e8 _ _ n1',d6]
 ·rw[e8 _ _ n3,d6];rfl
 ·rw[d6,aN];rfl
 ·exact(((e9.new u).trans (e9.upd (by k_extra"m"))).trans (e9.upd (by k_extra"m"))).trans (e9.upd (by k_extra"m"))
theorem bj9{O:List Int}(e:O=done++x::L)(c:O.Nodup)(P:j∈done):O.idxOf j<O.idxOf x:=by
 subst e;have U:x∉done:=λq=>(cA.mp c).2.2 x q x (.head _) rfl
 rw[List.idxOf_append,if_pos P,List.idxOf_append,if_neg U,List.idxOf_cons_self,iJ];exact List.idxOf_lt_length_iff.mpr P
open Internal renaming wW->y21,Ec->y22,H1->y23
theorem cy7:True:=by
 k_with"c"=>first | (refine y21 p.N (by k_extra"d") (by with_reducible assumption) (by with_reducible assumption) (by k_extra"n") (by k_extra"n") ?_;intro _) | (refine y22 p.N (by k_extra"d") (by k_extra"n") ?_;intro _ _ _) | (refine y23 p.N (by k_extra"d") (by k_extra"h") (by with_reducible assumption) (by with_reducible assumption) (by k_extra"n") (by k_extra"n") ?_;intro _ _ _ _ _ _)
 trivial
set_option tactic.hygienic true in
theorem KH(N:Nm g)(hD:13<=D){A:Int}(hs:Scr g sa ns)(hl:ns.length<=100)(hm:7<=A)(Ja:A<=40)
  (h:∀ Z' p I ta H rh tb ws C M rk,Z' p=some (.L [.ref I,.ref ta,.int C,.int M,.ref H])->Z' I=some (.L rh)->Z' ta=some (.L tb)->Z' H=some (.L (List.map V.str ws))->I≠p->I≠ta->I≠H->Sub Z Z'->FG rh tb C M rk->(rh.length:Int)<=A->
   5<=ws.length->ws.length<=8->(∀ x∈ws,m8 x=true)->Q (.ref p) Z'):d8 g D true "_law_form" [.ref sa,.int A] Z Q X:=by
 refine bd N Ku (by k_extra"b") hD λcx p=>?_
 have hs:=p.e▸hs;k_extra"w";rename_i x0 hx0 hx1 E hst _ _ _ _;refine Mj p.N (p.dd (by decide)) hm Ja λm t c hm1 K ht1 ht2 hc1 hc2=>?_
 obtain⟨m,rfl⟩:=bM (show 0<=m by lia)
 refine d4 (bM ht1) λt qa=>?_;subst qa
 k_extra"w";refine PB p.N (p.dd (by decide)) hx0 hx1 λH ws n L hwl h5 h8 hw hn hn'=>?_
 k_extra"w";rename_i tmp htmp I hla T hsl;have er:(aC (m:Int).toNat [V.tup [.str (aa "number"),.int 0]]).flatten=aC m (V.tup [.str (aa "number"),.int 0]):=List.flatten_replicate_singleton;rw[er] at hsl ⊢;refine d5 (j3 hla) λa1 a2=>d5 (j3 a2) λa3 a4=>?_
 refine d5 (j3 a4) λa5 a6=>d5 (j3 hsl) λb1 b2=>?_
 refine d5 (j3 b2) λb3 b4=>d5 (j3 b4) λb5 b6=>?_
 refine d5 (j3 b6) λb7 b8=>d5 (j3 htmp) λc1 c2=>?_
 refine d5 (j3 c2) λc3 c4=>?_
 obtain⟨Y,w⟩:∃ Y,Y=upd (upd (upd (upd (upd Z E (.L [.int n])) H (.L (ws.map .str))) tmp (.L [V.tup [.str (aa "number"),.int 0]])) I (.L (aC m (V.tup [.str (aa "number"),.int 0])))) T (.L []):=⟨_,rfl⟩;have t1:Y E=some (.L [.int n]):=by rw[w,e8 _ _ (Ne.symm b7),e8 _ _ (Ne.symm a5),e8 _ _ (Ne.symm c3),e8 _ _ (Ne.symm L),d6]
 have t2:Y H=some (.L (ws.map .str)):=by rw[w,e8 _ _ (Ne.symm b5),e8 _ _ (Ne.symm a3),e8 _ _ (Ne.symm c1),d6]
 have t3:Y I=some (.L (aC m (V.tup [.str (aa "number"),.int 0]))):=by rw[w,e8 _ _ (Ne.symm b1),d6]
 have t4:Y T=some (.L []):=by rw[w,d6]
 have t5:Sub Z Y:=by
  rw[w];exact((((Sub.upd hst).trans (Sub.upd (by rw[e8 _ _ L];exact hwl))).trans (Sub.upd (by rw[e8 _ _ c1,e8 _ _ c3];exact c4))).trans (Sub.upd (by rw[e8 _ _ a1,e8 _ _ a3,e8 _ _ a5];exact a6))).trans (Sub.upd (by rw[e8 _ _ b1,e8 _ _ b3,e8 _ _ b5,e8 _ _ b7];exact b8))
 rw[<- w];clear w hsl hla htmp;refine bJ8 (many:=m) p.N (p.dd (by decide)) t1 hn hn' (bj.mp (aW K (aW Ja (by decide)))) λb O n2 hbst hb Za hn2 hn2'=>?_
 have hbwl:=j7 t2 hb;have hbla:=j7 t3 hb;have hbsl:=j7 t4 hb;have hwlA:H∉[E,I,T]:=by simp[L,Ne.symm a3,Ne.symm b5]
 have hOl:=Za.len;refine LoopR.tmp (by rw[e8 _ _ hbst];exact hb) (Loop.g p (FmJ sa E I T H A ⟨m,t,c⟩ m ws O Y) (λ_ k_=>k_ [] O n2 _ none none rfl rfl (d6 _ _ _) hn2 hn2' (by rw[e8 _ _ a5];exact t3) bK (by rw[e8 _ _ b7];exact t4) (λi r hi=>(by cases hi)) (e9.upd (by k_extra"m")) rfl) (λcx p hB v rest hJ=>?_) ?_)
 ·k_extra"az"
  refine⟨trivial,?_⟩;cases todo with
  | nil=>cases e2
  | cons x todo=>
   k_extra"aJ";rw[qa] at hJ e2
   subst e3;obtain⟨x0',x1'⟩:=Za.rng x (by rw[e1];simp)
   refine d4 (bM x0') λx qa=>?_;subst qa
   have hdl:done.length<=100:=by have:=congrArg List.length e1;rw[aK,Za.len] at this;lia
   have hnx:(x:Int)∉done:=λq=>(cA.mp (e1▸Za.nd)).2.2 _ q _ (.head _) rfl
   have fin:∀ r U u o7 o8,e9 [E,I,T] Z' u->GR ⟨m,t,c⟩ (·∈done) (·∈ws) 8 r->0<=U->U<2147483647->u E=some (.L [.int U])->u I=some (.L (R.set x r))->u T=some (.L ((done++[(x:Int)]).map .int))->
     FmJ sa E I T H A ⟨m,t,c⟩ m ws O Y (todo.map .int) [some (.ref sa),some (.int A),some (.ref E),some (.tup [.int m,.int t,.int c]),some (.ref H),some (.ref I),some (.ref T),o7,o8,none] u:=λr U u o7 o8 q1 q2 q3 q4 q5 q6 q7=>by
    refine(λ_ k_=>k_ (done++[(x:Int)]) todo U (R.set x r) o7 o8 (by rw[e1,bH];rfl) rfl q5 q3 q4 q6 (by rw[bZ];exact P) q7 (λi r' hi hr'=>?_) (hS.trans q1) rfl)
    by_cases hix:x=i
    ·subst hix
     rw[jP (uT P x1')] at hr';rw[<- d7 hr'];exact q2.mono (λj hj=>⟨Za.rng j (by rw[e1];exact aH.mpr (.inl hj)),bj9 e1 Za.nd hj⟩) λy hy=>hw y hy
    ·rw[kZ hix] at hr'
     rcases aH.mp hi with q | q
     ·exact hG i r' q hr'
     ·exact absurd (Int.ofNat.inj (aA.mp q)).symm hix
   have hwl':=hS H _ hwlA t2;k_extra"w"
   ·exact Stop.mk (Bo (z:=⟨m,t,c⟩) (m:=m) p (d6 _ _ _) (by with_reducible assumption) (by with_reducible assumption) (by k_extra"h") (by k_extra"h") (by k_extra"h") a5 b7 (Ne.symm b1) L (by lia) (by lia) (by show 1<=(m:Int);exact hm1) (by show(m:Int)<=100;exact Be Ja K) (by show 0<=(t:Int);exact C1) (by show(t:Int)<=100;exact Ar ht2) hc1 (by show c<=100;exact vZ hc2) hdl (Ab h5) (rU h8) (uT P x1') (Cz Ja K P)
     λr U u q1 q2 q3 q4 q5 q6 q7=>hJ (fin r U u _ _ ((((e9.upd (by k_extra"m")).trans (e9.upd (by k_extra"m"))).trans (e9.upd (by k_extra"m"))).trans q7) q1 q2 q3 q4 q5 q6))
   ·exact Stop.mk (Bo (z:=⟨m,t,c⟩) (m:=m) p (d6 _ _ _) (by with_reducible assumption) (by with_reducible assumption) (by k_extra"h") (by k_extra"h") (by k_extra"h") a5 b7 (Ne.symm b1) L (Bs (by assumption)) (by lia) (by show 1<=(m:Int);exact hm1) (by show(m:Int)<=100;exact Be Ja K) (by show 0<=(t:Int);exact C1) (by show(t:Int)<=100;exact Ar ht2) hc1 (by show c<=100;exact vZ hc2) hdl (Ab h5) (rU h8) (uT P x1') (Cz Ja K P)
     λr U u q1 q2 q3 q4 q5 q6 q7=>hJ (fin r U u _ _ (((e9.upd (by k_extra"m")).trans (e9.upd (by k_extra"m"))).trans q7) q1 q2 q3 q4 q5 q6))
 ·k_extra"az"
  k_extra"X";k_extra"9"
  rw[bI] at e1;rw[<- e1] at hsl' hG;refine Stop.mk ?_;have hlaA:I∉[E]:=by simp[a5]
  have hwlA':H∉[E]:=by simp[L]
  show Dh.w true l6 cx [] [some (.ref sa),some (.int A),some (.ref E),some (.tup [.int m,.int t,.int c]),some (.ref H),some (.ref I),some (.ref T),o7,o8,none] Z';k_extra"w";refine U9 (a:=0) (b:=(t:Int)) p (λi F u=>∃ n,0<=n/\n<2147483647/\u E=some (.L [.int n])/\e9 [E] Z' u/\F.length=i/\∀ x∈F,u8 x=true/\∀ Z,Cld Z x) (aW ht2 (by decide)) ⟨n,h0,h1,hst',e9.refl,rfl,λx hx=>(by cases hx)⟩ (λcx p i F hi hJ hN=>?_) ?_
  ·rintro u hh;refine Qf hh λn g0 g1 g2 g3 g4 g5=>?_
   k_extra"w";refine bV8 p.N (p.dd (by decide)) g2 g0 g1 λt' U q1 q2 q3 q4=>(hJ ⟨U,q3,q4,d6 _ _ _,g3.trans (e9.upd (by k_extra"m")),by rw[aK,g4];rfl,λx hx=>?_⟩)
   k_extra"aI"
   ·exact g5 x q
   ·rw[aA.mp q];exact⟨q1,q2⟩
  ·rintro F u ⟨n,g0,g1,g2,g3,g4,g5⟩ ta hta
   have g4:F.length=t:=by rw[g4];exact xx
   have hla2:=g3 I _ hlaA hla';have hwl2:=g3 H _ hwlA' (hS H _ hwlA t2);have hlat:=j7 hla2 hta;have hwlt:=j7 hwl2 hta;have hstt:=j7 g2 hta;k_extra"w";rename_i M n3 o0 o1 _ _ pa hp;have hla3:upd (upd u ta (.L F)) E (.L [.int n3]) I=some (.L R):=by k_extra"h"
   refine p.h (h _ pa I ta H R F ws c M (λj=>O.idxOf j) (d6 _ _ _) (i4 (by k_extra"h") hp) (i4 (by k_extra"h") hp) (i4 (by k_extra"h") hp) (j7 hla3 hp) hlat (Ne.symm (λe=>a3 e.symm)) ?_ ?_ (by rw[P];exact K) h5 h8 hw)
   ·have k1:e9 [E,I,T] u (upd (upd u ta (.L F)) E (.L [.int n3])):=(e9.new hta).trans (e9.upd (by k_extra"m"))
    have k2:e9 [E,I,T] Z' u:=λx o hx e=>g3 x o (λq=>hx (by rw[aA.mp q];simp)) e
    have k3:e9 [E,I,T] Z Y:=λx o _ e=>t5 x o e
    refine Sub.trans (e9.sub (((k3.trans hS).trans k2).trans k1) λx hx=>?_) (Sub.upd hp)
    k_extra"au"
    rcases hx with rfl | rfl | rfl
    ·exact hst
    ·exact a6
    ·exact b8
   ·refine⟨λi r hi=>?_,by lia,by exact aj (aG P) (bj.mp (aW K (aW Ja (by decide)))),by exact Yi ht2 g4,g5,hc1,hc2,o0,by rw[P];exact o1⟩
    have hin:=cu λq=>by
     have:=L4 (S:=(i:Int)::O) (n:=m) (dC.mpr ⟨q,Za.nd⟩) λx hx=>by
      k_extra"aH"
      ·exact⟨bB i,by exact Jm P ((aF.mp hi).1)⟩
      ·exact Za.rng x hx
     rw[bD,Za.len] at this;lia
    have:=hG i r hin hi;rw[P,g4];exact this
end
theorem pC(h:u8 v=true):∃ l,v=.tup l/\∀ x∈l,t9 x=true:=by
 cases v with
 | tup l=>
  have h:((decide (1<=l.length)&&decide (l.length<=20))&&(l.all t9&&(bh (l.length-1)).all (E1 l)))=true:=h;exact⟨l,rfl,bc.mp ((cG _ _).mp ((cG _ _).mp h).2).1⟩
 | _=>exact ff h
def AtJ(l:List V)(n:Int)(k:Nat)(Z:Hp)(rest:List V)(w:Lo)(Z':Hp):Prop:=
 ∀ c:Prop,(∀ (f:Int) (q:Lo) (e:Z=Z') (A:∀ x∈rest,t9 x=true) (T:rest.foldl (W7 n) f=l.foldl (W7 n) 0) (hl:q.length=k) (C:w=some (.tup l)::some (.int n)::some (.int f)::q),c)->c
theorem Qk(h:l.length=3):∃ a b c,l=[a,b,c]:=by
 cases l with
 | nil=>cases h
 | cons a l=>cases l with
  | nil=>cases h
  | cons b l=>cases l with
   | nil=>cases h
   | cons c l=>cases l with
    | nil=>exact⟨a,b,c,rfl⟩
    | cons _ _=>cases h
theorem WQ(h:l.length=1):∃ a,l=[a]:=jX.mp h
theorem Hm(h:a<=n):W7 n f (.tup [.int a,.int b,.int c])=b+(n-a)*c / 100:=if_pos h
theorem Mq(h:¬ a<=n):W7 n f (.tup [.int a,.int b,.int c])=f:=if_neg h
section
variable{g:G}{Q:V->Hp->Prop}
set_option tactic.hygienic true in
theorem Om(N:Nm g)(hD:1<=D)(R:u8 t=true)(h:Q (.int (atN t n)) Z):d8 g D true "at_number" [t,.int n] Z Q X:=by
 refine bd N Ww (by k_extra"b") hD λcx p=>a7 (pC R) λl Ja hr=>?_
 subst Ja;k_extra"w";refine Loop.g p (AtJ l n 3 Z) (λ_ k_=>k_ 0 [none,none,none] rfl hr rfl rfl rfl) (λcx p I v rest hJ=>?_) ?_
 ·k_extra"S"
  k_extra"X";refine Q3 (Qk hl) λZa w o3 Ja=>?_;subst Ja
  k_extra"cx"
  k_extra"cf"
  k_extra"w"
  ·rename_i q
   k_extra"bw"
  ·rename_i q
   k_extra"bx"
 ·k_extra"S"
  k_extra"cD"
theorem Bm:L8 "add" a b=a+b:=if_pos (by k_extra"#")
theorem Fz:L8 "take" a b=a-b:=(if_neg (by k_extra"#")).trans (if_pos (by k_extra"#"))
theorem Aj:L8 "least" a b=min a b:=(if_neg (by k_extra"#")).trans ((if_neg (by k_extra"#")).trans (if_pos (by k_extra"#")))
theorem xZ:L8 "most" a b=max a b:=(if_neg (by k_extra"#")).trans ((if_neg (by k_extra"#")).trans (if_neg (by k_extra"#")))
theorem Hq(N:Nm g)(hD:1<=D)(Za:W2 w)(h:Q (.int (L8 w a b)) Z):d8 g D true "of_two" [.str w,.int a,.int b] Z Q X:=by
 refine bd N Xg (by k_extra"b") hD λcx p=>?_
 cases Za
 ·k_extra"w"
  exact p.h (by rw[Bm] at h;exact h)
 ·k_extra"w"
  exact p.h (by rw[Fz] at h;exact h)
 ·k_extra"w"
  exact p.h (by rw[Aj] at h;exact h)
 ·k_extra"w"
  exact p.h (by rw[xZ] at h;exact h)
end
structure YrAt(Z:Hp)(z:Lim)(y:Yr)(pa ea ta:Addr):Prop where
 hp:Z pa=some (.ds (dS y.P))
 he:Z ea=some (.L (y.E.map .int))
 ht:Z ta=some (.L (y.T.map .bool))
 ez:y.E=[]∨(y.E.length:Int)=z.L
 e1:y.E.length<=100
 tz:(y.T.length:Int)=z.C
 bz:(y.tb.length:Int)=z.T
 t1:y.T.length<=100
 b1:y.tb.length<=100
 tab:∀ t∈y.tb,u8 t=true
theorem YrAt.sub{U:Addr}(h:YrAt Z z y q c U)(k:Sub Z Z'):YrAt Z' z y q c U:=
 ⟨k _ _ h.hp,k _ _ h.he,k _ _ h.ht,h.ez,h.e1,h.tz,h.bz,h.t1,h.b1,h.tab⟩
theorem Bj{T:List Bool}{x:V}(h:(T.map V.bool)[k]?=some x):x=.bool (T.getD k false):=by
 k_extra"cy"
 rw[aP,hb];rfl
theorem Xv{T:List Int}{x:V}(h:(T.map V.int)[k]?=some x):x=.int (T.getD k 0):=by
 k_extra"cy"
 rw[aP,hb];rfl
theorem uK{T:List V}(h:T[k]?=some x):x=T.getD k .none:=by
 rw[aP,h];rfl
section
variable{g:G}{Q:V->Hp->Prop}
def Br(f:Int->Int)(L:List (Int×V))(n:Nat)(v:V):Prop:=Nms (λi=>i9 L i=some (.int (f i))) n v
theorem qx(N:Nm g)(hD:1<=D){z:Lim}{y:Yr}{u q U A:Addr}{tb:V}(Y:YrAt Z z y u q U)(S:Z A=some (.di L))(hk:ok z (n+1) (.tup [.str w,x])=true)(hl:qd w=true)(hL:Br f L (n+1) (.tup [.str w,x]))(h:Q (.int (wv y f (n+1) (.tup [.str w,x]))) Z) :
  d8 g D true "leaf" [.tup [.str w,x],.tup [.ref u,.ref q,.ref U,tb,.ref A]] Z Q X:=by
 refine bd N bG0 (by k_extra"b") hD λcx p=>?_
 obtain⟨F,C,R,c,E,-⟩:=Y;have el:(y.E.map V.int).length=y.E.length:=aq _;cases K0 hk with
 | num i=>
  k_extra"w";exact p.h (by rw[O6] at h;exact h)
 | paper x=>
  k_extra"w";refine p.h ?_;rw[yM];rw[R9] at h;exact h
 | line i M Za=>
  k_extra"w";exact DAt.mk _ hL.line (p.h (by rw[P5] at h;exact h))
 | earlier i M Za=>
  rw[S2] at h;rcases c with c | c
  ·rw[c] at h el C
   k_extra"w";exact p.h h
  ·k_extra"w"
   refine Idx.mk M (by exact Rd el Za c) (by exact cL Za (bG (iG c.symm) (bG (bj.mpr E) (by decide)))) λx T=>?_
   rw[Xv T];exact p.h h
end
section
variable{g:G}
set_option tactic.hygienic true in
theorem SQ{y:Yr}{U K:Addr}{f:Int->Int}{L:List (Int×V)}(Y:YrAt Z z y Ja H U)(hv:Z K=some (.di L)):∀ (n:Nat) {g:G} {D:Nat} {v:V} {Q:V->Hp->Prop} {X:Str->Hp->Prop},Nm g->n+2<=D->ok z n v=true->Br f L n v->Q (.int (wv y f n v)) Z->
  d8 g D true "worth" [v,.tup [.ref Ja,.ref H,.ref U,.tup y.tb,.ref K]] Z Q X:=by
 intro n;induction n with
 | zero=>intro g D v Q X N hD hk;exact ff hk
 | succ n c=>
  intro g D v Q X N hD hk hL h;refine bd N Uh (by k_extra"b") hD λcx p=>?_
  cases K0 hk with
  | num i=>
   k_extra"w";exact qx p.N (by k_extra"d") Y hv hk (by k_extra"#") hL (p.h h)
  | paper x=>
   k_extra"w";exact qx p.N (by k_extra"d") Y hv hk (by k_extra"#") hL (p.h h)
  | line i M Za=>
   k_extra"w";exact qx p.N (by k_extra"d") Y hv hk (by k_extra"#") hL (p.h h)
  | earlier i M Za=>
   k_extra"w";exact qx p.N (by k_extra"d") Y hv hk (by k_extra"#") hL (p.h h)
  | part r i A M Za=>
   k_extra"w";refine c p.N (aj (aG (bL n 1).symm) p.d) A hL.part ?_;k_extra"w";exact p.h (by rw[T3] at h;exact h)
  | table i r M Za A=>
   have C:=Y.bz;have F:=Y.b1;k_extra"w";refine Idx.mk M (by exact lt_of_lt_of_eq Za (id (jq C))) (by exact Du Za C F) λt R=>c p.N (aj (aG (bL n 1).symm) p.d) A hL.table ?_
   refine Om p.N (by k_extra"d") (Y.tab t (aL R)) ?_
   rw[uK R];exact p.h (by rw[S5] at h;exact h)
  | two w r t I A R=>
   rw[Q2 I] at h;cases I;all_goals
    k_extra"w";refine c p.N (aj (aG (bL n 1).symm) p.d) A (hL.two1 (by constructor)) (c p.N (aj (aG (bL n 1).symm) p.d) R (hL.two2 (by constructor)) ?_)
    exact Hq p.N (by k_extra"d") (by constructor) (p.h h)
  | wher r t u A R P=>
   rw[N1] at h;k_extra"w";refine c p.N (aj (aG (bL n 1).symm) p.d) A hL.wher1 ?_;k_extra"w"
   ·rename_i q
    rw[if_pos q] at h;exact c p.N (aj (aG (bL n 1).symm) p.d) R hL.wher2 (p.h h)
   ·rename_i q
    rw[if_neg q] at h;exact c p.N (aj (aG (bL n 1).symm) p.d) P hL.wher3 (p.h h)
  | choo i r t M Za A R=>
   rw[N2] at h;have O:=Y.tz;have hl:(y.T.map V.bool).length=y.T.length:=aq _;have E:=Y.ht;k_extra"w";refine Idx.mk M (by exact OD Za O hl) (by exact Du Za O Y.t1) λx T=>?_
   rw[Bj T];cases C:y.T.getD i.toNat false with
   | true=>
    rw[C,if_pos rfl] at h;k_extra"w";exact c p.N (aj (aG (bL n 1).symm) p.d) R hL.choo2 (p.h h)
   | false=>
    rw[C,if_neg az] at h;k_extra"w";exact c p.N (aj (aG (bL n 1).symm) p.d) A hL.choo1 (p.h h)
end
structure GP(P:List (Str×Int)):Prop where
 nd:((dS P).map (·.1)).Nodup
 wd:∀ p∈P,m8 p.1=true
 lo:∀ p∈P,-1000000000<=p.2
 hi:∀ p∈P,p.2<=1000000000
theorem Xw{D:List (Str×Int)}(h:(i9 (dS D) x).isSome=false):x7 (dS D) x (.int i)=dS (D++[(x,i)]):=by
 unfold x7;rw[if_neg]
 ·unfold dS;rw[aN];rfl
 ·intro q
  have:(i9 (dS D) x).isSome=true:=by
   unfold i9;rw[Option.isSome_map,List.find?_isSome];exact a7 (fj.mp q) λp M e=>⟨p,M,e⟩
  rw[h] at this;cases this
theorem vf(h:m8 x=true):x.length<=10000:=by
 unfold m8 at h;exact aj (f4 (b9 (b9 h).1).2) (by decide)
theorem yH{D:List (Str×V)}(h:i9 D x=some v):x∈D.map (·.1):=by
 unfold i9 at h;refine a7 (aR.mp h) λq c N=>?_
 have e:=jO c;exact aM.mpr ⟨q,eQ c,by simpa using e⟩
theorem GP.new{Q:List (Str×Int)}(h:GP (P++p::Q)):(i9 (dS P) p.1).isSome=false:=by
 cases e:i9 (dS P) p.1 with
 | none=>rfl
 | some v=>
  have Za:=h.nd;unfold dS at Za;rw[aN,aN] at Za;exact absurd rfl ((cA.mp Za).2.2 _ (yH e) _ (.head _))
section
variable{g:G}{Q:V->Hp->Prop}
open Internal renaming uJ->y24,U2->y25
theorem cy8:True:=by
 k_with"c"=>first | refine y24 p.N (by k_extra"d") (by with_reducible assumption) ?_ | refine y25 p.N (by k_extra"d") (by intro _ e;cases e) ?_
 trivial
set_option tactic.hygienic true in
theorem cs3(N:Nm g)(hD:3<=D){F:Addr}(C:Z F=some (.L (P.map tS)))(y:GP P)(hz:P.length<=1000)(h:∀ b,Z b=none->Q (.ref b) (upd Z b (.ds (dS P)))) :
  d8 g D true "papers_of" [.ref F] Z Q X:=by
 refine bd N cx4 (by k_extra"b") hD λcx p=>?_
 k_extra"bR";refine LoopR.held _ (i4 C Y) (Loop.g p (λc w u=>∃ A B o,P=A++B/\c=B.map tS/\u=upd Z b (.ds (dS A))/\w=[some (.ref F),some (.ref b),o]) ⟨[],P,none,rfl,rfl,rfl,rfl⟩ (λcx p I v c H=>?_) ?_)
 ·k_extra"bn"
  refine⟨i4 C Y,?_⟩;cases B with
  | nil=>cases e2
  | cons q B=>
   k_extra"aJ";rw[qa] at H e2
   obtain⟨x,i⟩:=q;obtain rfl:v=.tup [.str x,.int i]:=e3;have E:(x,i)∈P:=by rw[e1];simp
   have Za:x4 (.str x)=true:=y.wd _ E;have K:f9 (.int i) (0-1000000000) 1000000000=true:=r8 (y.lo _ E) (y.hi _ E);have Ja:=GP.new (p:=(x,i)) (e1▸y);have O:Cld (upd Z b (.ds (dS A))) (.str x):=.str (vf Za);have hl:(dS A).length<=10000:=by
    have:=congrArg List.length e1;rw[aK] at this;unfold dS;rw[aq];exact aj (aj (cC ..) (aG this.symm)) (aj hz (by decide))
   k_extra"w"
   ·rename_i q;exact absurd Ja.symm q
   rw[Xw (x:=x) Ja];exact H ⟨A++[(x,i)],B,_,by rw[e1,bH];rfl,rfl,rfl,rfl⟩
 ·k_extra"bn"
  refine⟨i4 C Y,?_⟩;obtain rfl:B=[]:=by cases B with | nil=>rfl | cons _ _=>cases e2
  rw[bI] at e1;subst e1;k_extra"w";exact p.h (h b Y)
theorem Zr(N:Nm g)(hD:1<=D){U:Addr}{T:List Bool}(R:Z U=some (.L (T.map .bool)))(hz:T.length<=100)(e:(T.length:Int)=C)(h:Q .none Z) :
  d8 g D true "need_taken" [.tup [a,b,.int C,c],.ref U] Z Q X:=by
 refine bdn N Iv (by k_extra"b") hD λcx p y=>?_
 have hl:(T.map V.bool).length=T.length:=aq _;have A:(T.map V.bool).length<=10000:=EY hz hl;have e:((T.map V.bool).length:Int)=C:=by rw[hl];exact e
 k_extra"w"
 ·refine LoopR.held _ R (Loop.g p (λq w u=>Z=u/\(∃ K:List Bool,q=K.map .bool)/\∃ o,w=[some (.tup [a,b,.int C,c]),some (.ref U),o]) ⟨rfl,⟨T,rfl⟩,none,rfl⟩ (λcx p I v q x=>?_) ?_)
  ·rintro _ _ ⟨rfl,⟨K,E⟩,o,rfl⟩
   refine⟨R,?_⟩;cases K with
   | nil=>cases E
   | cons t K=>
    refine d5 (List.cons.inj E) λJa F=>?_;subst Ja;rw[F] at x E
    k_extra"w";exact x ⟨rfl,⟨K,rfl⟩,_,rfl⟩
  ·rintro _ _ hh;obtain⟨rfl,-,o,rfl⟩:=hh
   exact⟨R,y (Sub.refl _) h⟩
end
noncomputable def fmV(rh tb:List V)(C c:Int):V:=.tup [.tup rh,.tup tb,.int C,.int c]
def C4(rh:List V)(y:Yr)(rk:Int->Nat):List Int:=(bh rh.length).map fun(i:Nat)=>sol rh y rk i
theorem FG.lnk(h:FG rh tb C c rk):Lnk ⟨rh.length,tb.length,C⟩ rh rk:=
 ⟨λi q=>(h.gr i _ (C3 q)).ok (λj P=>P.1) (λx U=>U) (aV 8),λi q j P=>by
  refine a7 ((h.gr i _ (C3 (x:=.none) q)).line_see _ P) λk e K=>?_
  rw[V.int.inj e];exact K⟩
theorem Ordr.names{F:List Int}(h:Ordr rh F):∀ {done todo:List Int} {i:Nat},F=done++(i:Int)::todo->Nms (·∈done) 8 (rh.getD i .none):=by
 induction h with
 | nil=>intro done todo i e;cases done<;>cases e
 | @snoc F k h e q=>
  intro done todo i c;rcases kJ todo with rfl | ⟨todo',t,rfl⟩
  ·refine d5 (iu c rfl) λJa e2=>?_;subst Ja
   k_extra"cS";intro j P;refine d5 (qX e) λz_ S=>?_
   have:=bc.mp ((cG _ _).mp S).2 _ P;exact f4 this
  ·rw[kW,<- List.cons_append,<- bH] at c
   exact q (iu c rfl).1
theorem BJ{f:Int->Int}{l:List Int}(h:j∈l):i9 (l.map λi=>(i,V.int (f i))) j=some (.int (f j)):=by
 obtain⟨v,Za,S⟩:=uP (L:=l.map λi=>(i,V.int (f i))) (k:=j) (by rw[cR];exact aM.mpr ⟨j,h,rfl⟩)
 refine a7 (aM.mp S) λi N e=>d5 (Prod.mk.inj e) λJa c=>?_
 subst Ja;rw[<- c] at Za S e;exact Za
theorem zj{O:List Int}(hl:O.length=n)(u:O.Nodup)(A:∀ x∈O,0<=x/\x<n)(c:i<n):(i:Int)∈O:=cu λq=>by
 have:=L4 (S:=(i:Int)::O) (n:=n) (dC.mpr ⟨q,u⟩) λx hx=>by
  k_extra"aH"
  ·exact⟨bB i,by exact aQ.mpr c⟩
  ·exact A x hx
 rw[bD,hl] at this;lia
theorem uG{E:List Int}(c:E=[]∨E.length=n)(h:n<=40):E.length<=100:=by
 rcases c with q | q
 ·rw[q];exact aY _
 ·exact aj (aG q) (aj h (by decide))
def bj6(rh:List V)(O:List Int)(f:Int->Int)(u:Addr)(fm c A tk y:V)(x:V)(Z:Hp)(rest:List V)(w:Lo)(Z':Hp):Prop:=
 ∀ q:Prop,(∀ (done L:List Int) (o:Option V) (E:O=done++L) (C:rest=L.map .int) (F:Z'=upd Z u (.di (done.map λi=>(i,V.int (f i))))) (P:w=[some fm,some c,some A,some tk,some x,some (.ref u),some y,o]),q)->q
section
variable{g:G}{Q:V->Hp->Prop}
set_option tactic.hygienic true in
theorem bM5(N:Nm g)(hD:13<=D){C w:Int}(F:FG rh tb C w rk){U:Addr}{P:List (Str×Int)}{E:List Int}{T:List Bool}(hpa:Z pa=some (.L (P.map tS)))(hP:GP P)(hz:P.length<=1000)
  (he:Z I=some (.L (E.map .int))) (ez:E=[]∨E.length=rh.length) (R:Z U=some (.L (T.map .bool))) (Za:(T.length:Int)=C)
  (h:∀ b,Z b=none->Q (.ref b) (upd Z b (.L ((C4 rh ⟨P,E,T,tb⟩ rk).map .int)))) :
  d8 g D true "reckoned" [fmV rh tb C w,.ref pa,.ref I,.ref U] Z Q X:=by
 refine bd N Li (by k_extra"b") hD λcx p=>?_
 have FF:=F.form;have u:=F.l40;k_extra"w";have tz:T.length<=100:=by have:=F.c8;exact sG Za this
 refine cs3 p.N (p.dd (by decide)) hpa hP hz λb M=>?_
 k_extra"w";refine Zr p.N (p.dd (by decide)) (i4 R M) tz Za ?_
 k_extra"w";rename_i va H;refine cn5 p.N (p.dd (by decide)) FF.rule (uM u) FF.acy λfa O hf hO K=>d5 hO.ok λOn Or=>?_
 have Y:YrAt (upd Z b (.ds (dS P))) ⟨rh.length,tb.length,C⟩ ⟨P,E,T,tb⟩ b I U:=
  ⟨d6 _ _ _,i4 he M,i4 R M,by rcases ez with q | q;exact .inl q;exact .inr (by show(E.length:Int)=rh.length;rw[q]),uG ez u,Za,rfl,tz,aj F.t5 (by decide),λt R=>(F.tab t R).1⟩
 generalize hτ:upd Z b (.ds (dS P))=τ at H hf Y ⊢;have L:=hτ▸Sub.upd M;refine LoopR.tmp hf (Loop.g p (bj6 rh O (sol rh ⟨P,E,T,tb⟩ rk) va (fmV rh tb C w) (.ref pa) (.ref I) (.ref U) (.tup [.ref b,.ref I,.ref U,.tup tb,.ref va]) (.ref b) τ) (λ_ k_=>k_ [] O none rfl rfl rfl rfl) (λcx p hB v rest Ja=>?_) ?_)
 ·k_extra"bS"
  refine⟨trivial,?_⟩;cases todo with
  | nil=>cases e2
  | cons x todo=>
   k_extra"aJ";rw[qa] at Ja e2
   subst e3;obtain⟨x0,x1⟩:=Or x (by rw[e1];simp)
   refine d4 (bM x0) λi qa=>?_;subst qa
   have S:i<rh.length:=pZ x1;have hnd:(i:Int)∉done:=λq=>(cA.mp (e1▸On)).2.2 _ q _ (.head _) rfl
   have hdl:done.length<=100:=by have:=congrArg List.length e1;rw[aK,K] at this;exact aj (aj (cC ..) (aG this.symm)) (aj u (by decide))
   have hmk:(done.map λi=>(i,V.int (sol rh ⟨P,E,T,tb⟩ rk i))).map (·.1)=done:=by rw[cR];exact List.map_id'' (λ_=>rfl) _
   k_extra"w";refine Idx.mk (bB i) (x1) (cL x1 (bG (bj.mpr u) (by decide))) λr hr=>?_
   obtain rfl:r=rh.getD i .none:=uK hr;refine SQ (f:=sol rh ⟨P,E,T,tb⟩ rk) (Y.sub (Sub.upd H)) (d6 _ _ _) 8 p.N (p.dd (by decide)) (F.lnk.ok i S) (λj hj=>BJ (hO.names e1 j hj)) ?_
   rw[oK F.lnk S];have hL:(done.map λi=>(i,V.int (sol rh ⟨P,E,T,tb⟩ rk i))).length<=10000:=by rw[aq];exact nq hdl
   k_extra"w";refine Ja (λ_ k_=>k_ (done++[(i:Int)]) todo _ (by rw[e1,bH];rfl) rfl ?_ rfl)
   rw[Bq (by rw[hmk];exact hnd),aN];rfl
 ·k_extra"bS"
  k_extra"X";k_extra"9"
  rw[bI] at e1;subst e1;k_extra"w";refine U9 p (λi A Z'=>upd τ va (.di (O.map λi=>(i,V.int (sol rh ⟨P,E,T,tb⟩ rk i))))=Z'/\A=((bh i).map fun(k:Nat)=>sol rh ⟨P,E,T,tb⟩ rk k).map V.int) (bj.mpr (aj u (by decide))) ⟨rfl,rfl⟩ (λcx p i A S Ja hN=>?_) ?_
  ·rintro _ y;refine d5 y λqa qb=>?_;clear y;subst qa;rw[qb] at Ja hN
   k_extra"L";k_extra"w";exact DAt.mk _ (BJ (zj K On Or (Fq S))) (Ja ⟨rfl,by rw[dY,aN,aN];rfl⟩)
  ·rintro A _ ⟨rfl,rfl⟩ c hcn
   have e2:((rh.length:Int)-0).toNat=rh.length:=D4 _;rw[e2];exact d5 (j3 hcn) λc1 c2=>p.r (E9 (L.trans (Sub.upd H))) (h c (j4 L c2))
end
theorem v4(h:∀ x∈l,nz x=true):nzL l=true:=by
 induction l with
 | nil=>rfl
 | cons x l ih=>
  show(nz x&&nzL l)=true;rw[h x (.head _),ih λy I=>h y (.tail _ I)];rfl
theorem N4(Za:zp l=false)(S:nzL l=true):nz (.tup l)=true:=by
 show(!zp l&&nzL l)=true;rw[Za,S];rfl
theorem pB(U:zp [x,y,z]=false)(Za:nz x=true)(S:nz y=true)(L:nz z=true):nz (.tup [x,y,z])=true:=N4 U (by
 show(nz x&&(nz y&&(nz z&&true)))=true;rw[Za,S,L];rfl)
theorem oM(U:zp [x,y,z,u]=false)(Za:nz x=true)(S:nz y=true)(L:nz z=true)(c:nz u=true):nz (.tup [x,y,z,u])=true:=N4 U (by
 show(nz x&&(nz y&&(nz z&&(nz u&&true))))=true;rw[Za,S,L,c];rfl)
theorem Ao:∀ (n:Nat) {v:V},ok z n v=true->nz v=true:=by
 intro n;induction n with
 | zero=>intro v h;exact ff h
 | succ n c=>
  intro v h;cases K0 h with
  | num i=>rfl
  | paper x=>rfl
  | line i M Za=>rfl
  | earlier i M Za=>rfl
  | part r i A M Za=>exact pB rfl rfl (c A) rfl
  | table i r M Za A=>exact pB rfl rfl rfl (c A)
  | two w r t q A R=>exact pB rfl rfl (c A) (c R)
  | wher r t u A R L=>exact oM rfl rfl (c A) (c R) (c L)
  | choo i r t M Za A R=>exact oM rfl rfl rfl (c A) (c R)
theorem sJ(h:∀ x∈l,∃ k,x=.tup k):zp l=false:=by
 cases l with
 | nil=>rfl
 | cons x l=>
  refine d4 (h x (.head _)) λk Ja=>?_;subst Ja
  cases l with
  | nil=>rfl
  | cons y l=>cases l with
   | nil=>rfl
   | cons _ _=>rfl
theorem bq3(h:ok z 8 v=true):∃ k,v=.tup k:=by
 cases K0 h<;>exact⟨_,rfl⟩
theorem xH(h:u8 t=true):nz t=true:=by
 refine a7 (pC h) λl qa hr=>?_;subst qa
 refine N4 (sJ λx hx=>?_) (v4 λx hx=>?_)
 ·k_extra"cK";exact⟨_,rfl⟩
 ·k_extra"cK";rfl
theorem FG.nz{rk:Int->Nat}(F:FG rh tb C c rk):nz (fmV rh tb C c)=true:=by
 have Za:=F.form;refine oM rfl (N4 (sJ λx U=>bq3 (Za.rule x U).ok) (v4 λx U=>Ao 8 (Za.rule x U).ok)) (N4 (sJ λx U=>?_) (v4 λx U=>xH (F.tab x U).1)) rfl rfl
 refine a7 (pC (F.tab x U).1) λl Ja N=>?_;subst Ja
 exact⟨_,rfl⟩
theorem NR.nil:NR []:=λi v e=>by cases e
theorem NR.cons{o:Option V}{J:Lo}(h:∀ v,o=some v->Internal.nz v=true)(k:NR J):NR (o::J):=λi v e=>by
 cases i with
 | zero=>exact h v (d7 e)
 | succ i=>exact k i v e
theorem NR.some{J:Lo}(h:Internal.nz v=true)(k:NR J):NR (some v::J):=k.cons λw e=>by cases e;exact h
structure PAt(Z:Hp)(cs:List Addr)(Ls:List (List V)):Prop where
 len:cs.length=Ls.length
 at':∀ {j:Nat} {c:Addr} {x:List V},cs[j]?=some c->Ls[j]?=some x->Z c=some (.L x)
theorem PAt.nil:PAt Z [] []:=⟨rfl,λe=>by cases e⟩
theorem PAt.sub(h:PAt Z cs c)(k:Sub Z Z'):PAt Z' cs c:=⟨h.len,λE C=>k _ _ (h.at' E C)⟩
theorem PAt.stay{A:List Addr}(h:PAt Z cs q)(k:e9 A Z Z')(R:∀ c∈cs,c∉A):PAt Z' cs q:=⟨h.len,λE C=>k _ _ (R _ (aL E)) (h.at' E C)⟩
theorem O1{c:Type}{l:List c}{x y:c}(h:(l++[x])[j]?=some y):(j<l.length/\l[j]?=some y)∨(j=l.length/\y=x):=by
 by_cases q:j<l.length
 ·rw[eH q] at h;exact .inl ⟨q,h⟩
 ·rw[cH (bU q)] at h
  have S:=(aF.mp h).1;rw[gf] at S;have e:=dB (Nat.le_of_sub_eq_zero (Nat.lt_one_iff.mp S)) (bU q);subst e;rw[gG] at h;exact .inr ⟨rfl,(d7 h).symm⟩
theorem PAt.snoc{Z:Hp}{cs:List Addr}{q:List (List V)}{c:Addr}{x:List V}(h:PAt Z cs q)(e:Z c=some (.L x)):PAt Z (cs++[c]) (q++[x]):=
 ⟨by rw[aK,aK,h.len];rfl,λe1 e2=>by
  rcases O1 e1 with ⟨q1,e1⟩ | ⟨q1,rfl⟩
  ·k_extra"as"
   ·exact h.at' e1 e2
   ·have:=h.len;exact Fp q1 q2 this
  ·k_extra"as"
   ·have:=h.len;exact DG q1 q2 this
   ·exact e⟩
theorem PAt.get(h:PAt Z cs u){j:Nat}{x:List V}(e:u[j]?=some x):∃ c,cs[j]?=some c/\Z c=some (.L x):=by
 k_extra"bK"
theorem PAt.has(h:PAt Z cs u)(hc:c∈cs):∃ x∈u,Z c=some (.L x):=by
 obtain⟨j,hj,rfl⟩:=fu hc;have q:=hj;rw[h.len] at q;exact⟨_,cT q,h.at' (ak hj) (ak q)⟩
def eS(rh tb:List V)(rk:Int->Nat)(E:List Int)(r:List (Str×Int)×List Bool):List Int:=C4 rh ⟨r.1,E,r.2,tb⟩ rk
def eY(rh tb:List V)(rk:Int->Nat)(Us:List (List (Str×Int)))(Ts:List (List Bool))(k:Nat):List Int:=((Us.zip Ts).take k).foldl (eS rh tb rk) []
def hL(rh tb:List V)(rk:Int->Nat)(Us:List (List (Str×Int)))(Ts:List (List Bool))(k:Nat):List (List V):=(bh k).map λj=>(eY rh tb rk Us Ts (j+1)).map V.int
section
variable{rk:Int->Nat}
theorem U3{T:List Bool}(L:Us[k]?=some u)(c:Ts[k]?=some T):eY rh tb rk Us Ts (k+1)=C4 rh ⟨u,eY rh tb rk Us Ts k,T,tb⟩ rk:=by
 have e:(Us.zip Ts)[k]?=some (u,T):=List.getElem?_zip_eq_some.mpr ⟨L,c⟩;unfold eY;rw[fQ,e,List.foldl_append];rfl
theorem Bu:(C4 rh y rk).length=rh.length:=by unfold C4;rw[aq,bO]
theorem uN(k:Nat):eY rh tb rk Us Ts k=[]∨(eY rh tb rk Us Ts k).length=rh.length:=by
 induction k with
 | zero=>exact .inl rfl
 | succ k c=>
  cases e:(Us.zip Ts)[k]? with
  | none=>unfold eY;rw[fQ,e,Option.toList_none,bI];exact c
  | some r=>unfold eY;rw[fQ,e,List.foldl_append];exact .inr Bu
theorem yo(k:Nat):hL rh tb rk Us Ts (k+1)=hL rh tb rk Us Ts k++[(eY rh tb rk Us Ts (k+1)).map V.int]:=by
 unfold hL;rw[dY,aN];rfl
theorem rZ(k:Nat):(hL rh tb rk Us Ts k).length=k:=by unfold hL;rw[aq,bO]
theorem cw3(h:x∈hL rh tb rk Us Ts k):∃ j,x=(eY rh tb rk Us Ts (j+1)).map V.int:=by
 refine a7 (aM.mp h) λj N Ja=>?_;subst Ja
 exact⟨j,rfl⟩
end
theorem D3{l:List Addr}:nzO (.L (l.map V.ref))=true:=v4 λx U=>by refine a7 (aM.mp U) λc N Ja=>?_;subst Ja;rfl
theorem qD{l:List Int}:nzO (.L (l.map V.int))=true:=v4 λx U=>by refine a7 (aM.mp U) λc N Ja=>?_;subst Ja;rfl
def CpJ(q:Hp)(cs:List Addr)(u:List (List V))(rest acc:List V)(Z':Hp):Prop:=
 ∀ c:Prop,(∀ (I L K:List Addr) (E:cs=I++L) (C:rest=L.map .ref) (w:acc=K.map .ref) (A:Sub q Z') (x:NZ Z') (y:PAt Z' K (u.take I.length)) (nw:∀ b∈K,q b=none),c)->c
theorem Lp{g:G}{T:XP}{s:List V}{J:Lo}{A:Hp}(p:Pk pq tab g n QQ T cx)(U:A Za=some (.L (cs.map .ref)))(L:PAt A cs C)(hz:cs.length<=1000)(hl:∀ x∈C,x.length<=10000)(nz:NZ A)
  (h:∀ Z' b bs,Sub A Z'->NZ Z'->Z' b=some (.L (bs.map .ref))->PAt Z' bs C->(∀ c∈bs,A c=none)->A b=none->K cx (.ref b::s) J Z'):CLoop ((IC.e (.list (.v 0))).w true) K [] (cs.map .ref) (λZ=>Z Za=some (.L (cs.map .ref))) cx s J A:=by
 refine CLoop.g p (CpJ A cs C) (by rw[aq];exact xK hz) (λz_ P=>P [] cs [] rfl rfl rfl (Sub.refl _) nz PAt.nil (λc hc=>(by cases hc))) (λcx p v S F R hN=>?_) ?_
 ·rintro Z' H;k_extra"cu"
  refine⟨w _ _ U,?_⟩;cases d2 with
  | nil=>cases e2
  | cons c d2=>
   k_extra"ab";rw[qb] at R hN e2
   have hc:cs[I.length]?=some c:=by rw[e1,cH (aV _),gG];rfl
   have q:=(aF.mp hc).1;rw[L.len] at q;have Ja:=ak q;have E:=L.at' hc Ja;refine Look.mk _ (w _ _ E) (Req.mk (hl _ (cT q)) λb Y=>R (λz_ P=>P (I++[c]) d2 (bs++[b]) (by rw[e1,bH];rfl) rfl (by rw[aN];rfl) (w.trans (Sub.upd Y)) (O.upd (nz c _ E)) ?_ (λy hy=>?_)))
   ·rw[aK]
    show PAt _ _ (C.take (I.length+1));rw[fQ,Ja];exact(u.sub (Sub.upd Y)).snoc (d6 _ _ _)
   ·rcases aH.mp hy with q | q
    ·exact nw y q
    ·rw[aA.mp q];exact j4 w Y
 ·rintro F Z' H;k_extra"cu"
  refine⟨w _ _ U,λa M=>?_⟩
  k_extra"F"
  rw[bI] at e1;subst e1;rw[L.len,gj] at u;exact h _ a bs (w.trans (Sub.upd M)) (O.upd D3) (d6 _ _ _) (u.sub (Sub.upd M)) nw (j4 w M)
structure HIn(Z:Hp)(ya ta:Addr)(as bs:List Addr)(Us:List (List (Str×Int)))(Ts:List (List Bool))(C:Int):Prop where
 hy:Z ya=some (.L (as.map .ref))
 ht:Z ta=some (.L (bs.map .ref))
 pa:PAt Z as (Us.map (·.map tS))
 ba:PAt Z bs (Ts.map (·.map .bool))
 lu:Us.length=Ts.length
 gp:∀ u∈Us,GP u
 uz:∀ u∈Us,u.length<=1000
 tz:∀ T∈Ts,(T.length:Int)=C
 zz:Ts.length<=100
def HsJ(rh tb:List V)(rk:Int->Nat)(Us:List (List (Str×Int)))(Ts:List (List Bool))(fm:V)(M U q:Addr)(Z:Hp)(i:Nat)(w:Lo)(Z':Hp):Prop:=
 ∀ x:Prop,(∀ (u:Addr) (cs:List Addr) (Za R:Option V) (H:Sub Z Z') (E:NZ Z') (T:Z' q=some (.L (cs.map .ref))) (y:PAt Z' cs (hL rh tb rk Us Ts i)) (C:Z' u=some (.L ((eY rh tb rk Us Ts i).map .int)))
  (L:∀ c∈cs,c≠q) (A:u≠q) (F:∀ v,Za=some v->nz v=true) (K:∀ v,R=some v->nz v=true) (e:w=[some fm,some (.ref M),some (.ref U),some (.ref q),some (.ref u),Za,R]),x)->x
section
variable{g:G}{Q:V->Hp->Prop}
set_option tactic.hygienic true in
theorem bT1(N:Nm g)(hD:14<=D){rk:Int->Nat}(F:FG rh tb C w rk){U:Addr}{as bs:List Addr}(H:HIn Z M U as bs Us Ts C)(nz:NZ Z)
  (h:∀ Z' b cs,Sub Z Z'->NZ Z'->Z' b=some (.L (cs.map .ref))->PAt Z' cs (hL rh tb rk Us Ts Ts.length)->(∀ c∈cs,Z c=none)->Z b=none->Q (.ref b) Z') :
  d8 g D true "history" [fmV rh tb C w,.ref M,.ref U] Z Q X:=by
 refine bd N bb7 (by k_extra"b") hD λcx p=>?_
 k_extra"aX"
 k_extra"do"
 have el:min (as.map V.ref).length (bs.map V.ref).length=Ts.length:=by rw[aq,aq,la,lb,lV]
 have zk:∀ {Z':Hp} {fa P:Addr} {o1 o2:Option V},Sub Z Z'->NZ Z'->(∀ v,o1=some v->Internal.nz v=true)->(∀ v,o2=some v->Internal.nz v=true)->ZipK M U (as.map .ref) (bs.map .ref) [some (fmV rh tb C w),some (.ref M),some (.ref U),some (.ref fa),some (.ref P),o1,o2] Z':=λA Ja Y K=>
  ⟨A _ _ hy,A _ _ ht,λx hx=>by
   refine a7 (aM.mp hx) λc hc qa=>?_;subst qa
   refine a7 (pa.has hc) λz _ e=>?_
   exact⟨c,_,rfl,A _ _ e⟩,Ja,.some F.nz (.some rfl (.some rfl (.some rfl (.some rfl (.cons Y (.cons K .nil))))))⟩
 k_extra"w";rename_i fa R P E;refine LoopZ.g p (l:=as.map .ref) (m:=bs.map .ref) (by k_extra"h") (by k_extra"h") (HsJ rh tb rk Us Ts (fmV rh tb C w) M U fa Z) (λ_ k_=>k_ P [] none none ((Sub.upd R).trans (Sub.upd E)) ((nz.upd rfl).upd rfl) (i4 (d6 _ _ _) E) PAt.nil (d6 _ _ _) (λc hc=>(by cases hc)) ((j3 E).1) (λv e=>(by cases e)) (λv e=>(by cases e)) rfl) (λcx p i x y hJ=>?_) ?_
 ·rintro _ Z' hx O S;k_extra"b4"
  have hi:i<Ts.length:=by have:=(aF.mp O).1;rw[aq,lb] at this;exact this
  k_extra"Q"
  k_extra"bF"
  obtain rfl:x=.ref a:=by rw[aB,ha] at hx;exact(d7 hx).symm
  obtain rfl:y=.ref b:=by rw[aB,hb] at O;exact(d7 O).symm
  have mu:=aL hU;refine⟨zk A Ja Y K,?_⟩;have hcl:(cs.map V.ref).length<=10000:=by rw[aq,hP.len,rZ];exact aj (bN hi) (aj zz (by decide))
  k_extra"w";refine bM5 p.N (p.dd (by decide)) F (A _ _ hau) (gp u mu) (uz u mu) he (uN i) (A _ _ hbt) (tz T (aL hT)) λb hb=>?_
  have eb:C4 rh ⟨u,eY rh tb rk Us Ts i,T,tb⟩ rk=eY rh tb rk Us Ts (i+1):=(U3 hU hT).symm;rw[eb];have I:=(j7 hf hb).symm;have em:cs.map V.ref++[V.ref b]=(cs++[b]).map V.ref:=by rw[aN];rfl
  k_extra"w";rw[em];refine hJ (λ_ k_=>k_ b (cs++[b]) _ _ (λc o e=>?_) ((Ja.upd qD).upd D3) (d6 _ _ _) ?_ (by rw[e8 _ _ I];exact d6 _ _ _) (λc hc=>?_) I (λv e=>(by cases e;rfl)) (λv e=>(by cases e;rfl)) rfl)
  ·rw[e8 _ _ (j7 e R)];exact Sub.upd hb _ _ (A _ _ e)
  ·rw[yo]
   exact(hP.stay ((e9.new hb).trans (e9.upd (by k_extra"m"))) λc hc=>j9 (L c hc)).snoc (by rw[e8 _ _ I];exact d6 _ _ _)
  ·k_extra"cz"
   ·exact L c q
   ·rw[aA.mp q];exact I
 ·rintro _ Z' S;k_extra"b4"
  rw[el] at hP he;refine⟨zk A Ja Y K,?_⟩;k_extra"w";refine Lp p hf hP (by rw[hP.len,rZ];exact aj zz (aZ ..)) (λx hx=>?_) Ja λZa b bs k1 k2 k3 k4 k5 k6=>p.h (h Za b bs (A.trans k1) k2 k3 k4 (λc hc=>j4 A (k5 c hc)) (j4 A k6))
  refine d4 (cw3 hx) λj qa=>?_;subst qa
  rw[aq];have:=uG (uN (rh:=rh) (tb:=tb) (rk:=rk) (Us:=Us) (Ts:=Ts) (j+1)) F.l40;exact nq this
set_option tactic.hygienic true in
theorem Nr(N:Nm g)(hD:1<=D)(R:u8 t=true)(h:Q (.int (atN t n)) Z):d8 g D true "_law_at" [t,.int n] Z Q X:=by
 refine bd N Hk (by k_extra"b") hD λcx p=>a7 (pC R) λl Ja hr=>?_
 subst Ja;k_extra"w";refine Loop.g p (AtJ l n 1 Z) (λ_ k_=>k_ 0 [none] rfl hr rfl rfl rfl) (λcx p I v rest hJ=>?_) ?_
 ·k_extra"S"
  k_extra"X";refine d4 (WQ hl) λZa Ja=>?_;subst Ja
  k_extra"cx"
  k_extra"cf"
  k_extra"w"
  ·rename_i q
   k_extra"bw"
  ·rename_i q
   k_extra"bx"
 ·k_extra"S"
  k_extra"cD"
end
theorem i8{k:Int}{K:V->Prop}(n:Nat)(x:V)(e:k=n)(U:l[n]?=some x)(c:n<=100)(h:K x):Idx l k K:=by
 subst e;exact⟨bB n,aQ.mpr (aF.mp U).1,by exact aQ.mpr (bA c (by decide)),λy I=>d7 (U.symm.trans I)▸h⟩
theorem Ga{k:Int}{K:V->Prop}(n:Nat)(x:V)(e:k=n)(U:l[n]?=some x)(h:K x):Pick l k K:=by
 subst e;exact⟨bB n,aQ.mpr (aF.mp U).1,λy I=>d7 (U.symm.trans I)▸h⟩
theorem qj{v:V}{L:List (Str×V)}:i9 ((k,v)::L) k=some v:=by
 unfold i9;rw[fK,show decide ((k,v).1=k)=true from decide_eq_true rfl];rfl
theorem O0{v:V}{L:List (Str×V)}(h:c≠k):i9 ((c,v)::L) k=i9 L k:=by
 unfold i9;rw[fK,show decide ((c,v).1=k)=false from decide_eq_false h]
theorem xO:slc y c (l.map f)=(slc y c l).map f:=by
 unfold slc;rw[aq,List.map_take,List.map_drop]
theorem xf{l:List Int}{i:Int}(M:0<=i):(slc (some i) (some (i+1)) l).sum=l.getD i.toNat 0:=by
 have E:clipAt l.length i=min i.toNat l.length:=W8 M;have C:clipAt l.length (i+1)=min (i.toNat+1) l.length:=by rw[W8 (iW M (by decide)),Int.toNat_add M (by decide)];rfl
 show((l.drop (clipAt l.length i)).take (clipAt l.length (i+1)-clipAt l.length i)).sum=_;rw[E,C,aP];by_cases h:i.toNat<l.length
 ·rw[gB (bN h),gB (show i.toNat+1<=l.length from h),Nat.add_sub_cancel_left,ak h,eN h,List.take_succ_cons,List.take_zero,List.sum_cons,List.sum_nil,Int.add_zero];rfl
 ·rw[ig (bU h),jt,List.take_nil,cO (bU h)];rfl
structure SgAt(Z:Hp)(z:Lim)(y:Yr)(Ls:List Int)(la pa ea ta:Addr):Prop where
 hl:Z la=some (.L (Ls.map .int))
 hp:Z pa=some (.L (y.P.map tS))
 nd:((dS y.P).map (·.1)).Nodup
 pz:(dS y.P).length<=10000
 he:Z ea=some (.L (y.E.map .int))
 ht:Z ta=some (.L (y.T.map .bool))
 lz:Ls.length<=100
 e1:y.E.length<=100
 tz:(y.T.length:Int)=z.C
 bz:(y.tb.length:Int)=z.T
 t1:y.T.length<=100
 b1:y.tb.length<=100
 tab:∀ t∈y.tb,u8 t=true
section
variable{g:G}
set_option tactic.hygienic true in
theorem JP{y:Yr}{c:List Int}{F U:Addr}(S:SgAt Z z y c I K F U):∀ (n:Nat) {g:G} {D:Nat} {v:V} {Q:V->Hp->Prop} {X:Str->Hp->Prop},Nm g->n+2<=D->ok z n v=true->Q (.int (wv y (λi=>c.getD i.toNat 0) n v)) Z->
  d8 g D true "_law_value" [v,.tup [.ref I,.ref K,.ref F,.tup y.tb,.ref U]] Z Q X:=by
 intro n;induction n with
 | zero=>intro g D v Q X N hD hk;exact ff hk
 | succ n ih=>
  intro g D v Q X N hD hk h;obtain⟨O,H,nd,pz,he,R,lz,E,P,A,t1,L,tab⟩:=S;have C:(y.P.map tS)=(dS y.P).map F1:=by unfold dS;rw[cR];rfl
  rw[C] at H;have n1:(c.map V.int).length<=10000:=by rw[aq];exact nq lz
  have n2:(y.E.map V.int).length<=10000:=by rw[aq];exact nq E
  have n3:(y.T.map V.bool).length=y.T.length:=aq _;refine bd N Kv (by k_extra"b") hD λcx p=>?_
  cases K0 hk with
  | num i=>
   k_extra"w";exact p.h (by rw[O6] at h;exact h)
  | paper x=>
   rw[R9] at h;k_extra"w";refine DOf.mk (dS y.P) H nd pz λb Y=>?_
   k_extra"w";rw[yM];exact p.r (Sub.upd Y) h
  | line i M Za=>
   rw[P5] at h;k_extra"w";refine i8 0 _ (by k_extra"#") rfl (by decide) ?_
   k_extra"bR";refine SumL.mk (slc (some i) (some (i+1)) c) (by rw[xO];exact d6 _ _ _) ?_
   rw[xf M];exact p.r (Sub.upd Y) h
  | earlier i M Za=>
   rw[S2] at h;k_extra"w";refine i8 2 _ (by k_extra"#") rfl (by decide) ?_
   k_extra"bR";refine SumL.mk (slc (some i) (some (i+1)) y.E) (by rw[xO];exact d6 _ _ _) ?_
   rw[xf M];exact p.r (Sub.upd Y) h
  | part r i hr M Za=>
   rw[T3] at h;k_extra"w";refine ih p.N (aj (aG (bL n 1).symm) p.d) hr ?_;k_extra"w";exact p.h h
  | table i r M Za hr=>
   rw[S5] at h;k_extra"w";refine Idx.mk M (lt_of_lt_of_eq Za (id (jq A))) (CW A L Za) λt ht=>ih p.N (aj (aG (bL n 1).symm) p.d) hr ?_
   refine Nr p.N (by k_extra"d") (tab t (aL ht)) ?_
   rw[uK ht];exact p.h h
  | two w r t Ja hr ht=>
   rw[Q2 Ja] at h;cases Ja
   ·rw[Bm] at h
    k_extra"o";rename_i b Y;exact(DAt.mk _ qj (p.r (Sub.upd Y) h))
   ·rw[Fz] at h
    k_extra"o";rename_i b Y;exact(DAt.mk _ ((O0 (by k_extra"#")).trans qj) (p.r (Sub.upd Y) h))
   ·rw[Aj] at h
    k_extra"o";rename_i b Y;exact(DAt.mk _ ((O0 (by k_extra"#")).trans ((O0 (by k_extra"#")).trans qj)) (p.r (Sub.upd Y) h))
   ·rw[xZ] at h
    k_extra"w";refine ih p.N (aj (aG (bL n 1).symm) p.d) hr ?_;k_extra"w";refine ih p.N (aj (aG (bL n 1).symm) p.d) ht ?_;k_extra"w";rename_i b Y;exact(DAt.mk _ ((O0 (by k_extra"#")).trans ((O0 (by k_extra"#")).trans ((O0 (by k_extra"#")).trans qj))) (p.r (Sub.upd Y) h))
  | wher r t u hr ht hu=>
   rw[N1] at h;k_extra"o";refine ih p.N (aj (aG (bL n 1).symm) p.d) hu ?_;by_cases q:0<wv y (λi=>c.getD i.toNat 0) n r
   ·rw[if_pos q] at h
    exact Ga 1 _ (by rw[decide_eq_true q];rfl) rfl (p.h h)
   ·rw[if_neg q] at h
    exact Ga 0 _ (by rw[decide_eq_false q];rfl) rfl (p.h h)
  | choo i r t M Za hr ht=>
   rw[N2] at h;k_extra"w";refine Idx.mk M (YK P n3 Za) (CW P t1 Za) λx T=>?_
   rw[Bj T];k_extra"w";cases Y:y.T.getD i.toNat false with
   | true=>
    rw[Y,if_pos rfl] at h;exact i8 3 t rfl rfl (by decide) (ih p.N (aj (aG (bL n 1).symm) p.d) ht (p.h h))
   | false=>
    rw[Y,if_neg az] at h;exact i8 2 r rfl rfl (by decide) (ih p.N (aj (aG (bL n 1).symm) p.d) hr (p.h h))
theorem Gz(N:Nm g)(hD:1<=D){Q:VP}(h:Q (.bool true) Z):d8 g D true "_law_whole" [.int i] Z Q X:=by
 refine bd N bI6 (by k_extra"b") hD λcx p=>?_
 k_extra"w";exact p.h h
end
structure Fl(l:List V):Prop where
 fl:flatL l=true
 de:depL l<=1
theorem Fl.of(h:∀ x∈l,flat x=true/\dep x<=1):Fl l:=by
 induction l with
 | nil=>exact⟨rfl,aY _⟩
 | cons x l ih=>
  refine d5 (h x (.head _)) λZa S=>?_
  obtain⟨L,c⟩:=ih λy I=>h y (.tail _ I)
  exact⟨by show(flat x&&flatL l)=true;rw[Za,L];rfl,jn.mpr ⟨S,c⟩⟩
theorem Fl.ints{l:List Int}:Fl (l.map .int):=.of λx U=>by refine a7 (aM.mp U) λi N Ja=>?_;subst Ja;exact⟨rfl,aY _⟩
structure Tp(rh:List V)(F:List Int):Prop where
 nd:F.Nodup
 rg:∀ x∈F,0<=x/\x<rh.length
 nm:∀ {done todo:List Int} {i:Nat},F=done++(i:Int)::todo->Nms (·∈done) 8 (rh.getD i .none)
theorem Tp.snoc{rh:List V}{F:List Int}{k:Nat}(h:Tp rh F)(K:k<rh.length)(u:(k:Int)∉F)(c:Nms (·∈F) 8 (rh.getD k .none)):Tp rh (F++[(k:Int)]):=by
 refine⟨cA.mpr ⟨h.nd,by simp,λx hx y hy q=>?_⟩,λx hx=>?_,fun{done todo i} e=>?_⟩
 ·rw[aA.mp hy] at q;exact u (q▸hx)
 ·k_extra"aI"
  ·exact h.rg x q
  ·rw[aA.mp q];exact⟨bB _,aQ.mpr K⟩
 ·rcases kJ todo with rfl | ⟨todo',t,rfl⟩
  ·refine d5 (iu e rfl) λJa e2=>?_;subst Ja
   k_extra"cS";exact c
  ·rw[kW,<- List.cons_append,<- bH] at e
   exact h.nm (iu e rfl).1
theorem cm6(c:1<=d){T:List Int}{Q:VP}(h:Q (.bool T.isEmpty) Z):EqL false d (T.map .int) [] Z Q:=by
 refine EqL.mk (Fl.ints (l:=T)).fl rfl (aj (cU (eV _ _)) (nH c)) ?_;cases T with
 | nil=>exact h
 | cons _ _=>exact h
theorem Jc(h:Lnk z rh rk){F:List Int}(hF:F.length<rh.length):∃ i,i<rh.length/\(i:Int)∉F/\Nms (·∈F) 8 (rh.getD i .none):=by
 have c:∀ (k:Nat) (i:Nat),i<rh.length->(i:Int)∉F->rk i=k->∃ j,j<rh.length/\(j:Int)∉F/\Nms (·∈F) 8 (rh.getD j .none):=by
  intro k;induction k using iQ with
  | ind k x=>
   intro i hi u K;by_cases q:Nms (·∈F) 8 (rh.getD i .none)
   ·exact⟨i,hi,u,q⟩
   ·refine d4 (Classical.not_forall.mp q) λj P=>d5 (Classical.not_imp.mp P) λP w=>?_
    obtain⟨⟨A,C⟩,E⟩:=h.dn i hi j P;have e:=bQ A;exact x (rk j) (K▸E) j.toNat (by exact TF C e) (by rw[e];exact w) (by rw[e])
 have T:∃ i,i<rh.length/\((i:Nat):Int)∉F:=cu λhno=>by
  k_extra"bv"
  have:=E4 (l:=(bh rh.length).map fun(i:Nat)=>V.int i) (k:=F.map .int) (List.Pairwise.map _ (λa b hab e=>hab (Int.ofNat.inj (V.int.inj e))) ir) λy hy=>by
   refine a7 (aM.mp hy) λi hi qa=>?_;subst qa
   exact aM.mpr ⟨_,hall i (bY.mp hi),rfl⟩
  rw[aq,aq,bO] at this;exact eE _ (aX hF this)
 exact a7 T λi hi u=>c _ i hi u rfl
def RwJ(rh:List V)(u:List Int)(w:Nat)(r:Addr)(Z:Hp)(i:Nat)(c:Lo)(Z':Hp):Prop:=
 ∀ q:Prop,(∀ (F G:List Int) (R o3:Option V) (E:F=u++G) (C:Tp rh F) (Za:w<i->(w:Int)∈F) (y:e9 [r] Z Z') (A:Z' r=some (.L (F.map .int))) (x:c=[some (.tup rh),some (.ref r),R,o3]),q)->q
section
variable{g:G}{Q:V->Hp->Prop}
set_option tactic.hygienic true in
theorem Kf(N:Nm g)(hD:12<=D)(F:FG rh tb C ow rk)
  (h:∀ r O,Z r=none->Tp rh O->O.length=rh.length->Q (.ref r) (upd Z r (.L (O.map .int)))):d8 g D true "_law_row" [.tup rh] Z Q X:=by
 refine bd N ci5 (by k_extra"b") hD λcx p=>?_
 have l40:=F.l40;have FF:=F.form;k_extra"w";rename_i r hr;have p0:=p;refine Whl.g p (λm J' Z'=>∃ (O:List Int) (o2 o3:Option V),Tp rh O/\m=rh.length-O.length/\e9 [r] (upd Z r (.L [])) Z'/\Z' r=some (.L (O.map .int))/\J'=[some (.tup rh),some (.ref r),o2,o3]) (rh.length-0)
  ⟨[],none,none,⟨.nil,λx hx=>(by cases hx),fun{done A i} e=>(by cases done<;>cases e)⟩,rfl,e9.refl,d6 _ _ _,rfl⟩ λcx p hB m hW=>?_
 rintro _ Z' I;refine x5 I λO o2 o3 hO qa hS hr' qb=>?_;clear I;rw[qa] at hW;subst qb
 have hOl:(O.map V.int).length=O.length:=aq _;have hOz:=L4 hO.nd hO.rg;have hOz':(O.map V.int).length<=10000:=by exact aj (aG hOl) (aj hOz (aj l40 (by decide)))
 k_extra"w"
 ·rename_i Ja
  have Ja:O.length<rh.length:=Rz hOl Ja;refine f6 (Jc F.lnk Ja) λw hw hwO hwN=>?_
  refine x3 p (RwJ rh O w r Z') (λ_ k_=>k_ O [] o2 o3 ((bI _).symm) hO (λq=>absurd q (dX _)) e9.refl hr' rfl) (λcx p hB i hi Za=>?_) ?_
  ·k_extra"bW"
   k_extra"L";have R:i<rh.length:=Fq hi;have Y:=L4 P.nd P.rg;have hF1l:(H.map V.int).length<=10000:=by rw[aq];exact aj (aj Y l40) (by decide)
   k_extra"w";refine i8 i _ rfl (C3 (x:=.none) R) (by lia) ?_
   have RO:=FF.rule _ (aL (C3 (x:=.none) R));refine ZC (z:=⟨rh.length,tb.length,C⟩) rfl 8 p.N (p.dd (by decide)) RO.ok (RO.few _) λe L he hSr hm=>?_
   obtain⟨l,rfl⟩:∃ l:List Int,L=l.map .int:=sO λy hy=>by
    refine a7 ((F.gr i _ (C3 (x:=.none) R)).line_see y ((hm y).mp hy)) λj ej _=>?_
    exact⟨j,ej⟩
   have hll:=E4 hSr λy hy=>(hm y).mp hy
   have hfew:=RO.few (aa "line");have hre:=j7 M he;have hNm:Nms (·∈H) 8 (rh.getD i .none)↔(l.filter λj=>!decide (j∈H))=[]:=by
    rw[List.filter_eq_nil_iff];constructor
    ·intro q j hj
     have:=q j ((hm _).mp (aM.mpr ⟨j,hj,rfl⟩));simp[this]
    ·intro q j hj
     refine a7 (aM.mp ((hm _).mpr hj)) λk hk ek=>?_
     have:=q k hk;rw[<- V.int.inj ek]
     simpa using this
   refine Look.mk _ (d6 _ _ _) ?_;refine CLoop.g p (λT U Z4=>upd Z3 e (.L (l.map .int))=Z4/\∃ done A:List Int,l=done++A/\T=A.map .int/\U=(done.filter λj=>!decide (j∈H)).map V.int) (by exact aj hll (aj (bN hfew) (by decide))) ⟨rfl,[],l,rfl,rfl,rfl⟩ (λcx p v T U hJ3 hN=>?_) ?_
   ·rintro _ I;obtain⟨rfl,done,A,e4,e5,rfl⟩:=I
    refine⟨d6 _ _ _,?_⟩;cases A with
    | nil=>cases e5
    | cons j A=>
     refine d5 (List.cons.inj e5) λe6 qa=>?_;rw[qa] at hJ3 hN e5
     subst e6;k_extra"bN"
     k_extra"w";all_goals
      rename_i q;first | exact hJ3 ⟨rfl,done++[j],A,by rw[e4,bH];rfl,rfl,by rw[dI];simp[q]⟩ | exact hN ⟨rfl,done++[j],A,by rw[e4,bH];rfl,rfl,by rw[dI];simp[q]⟩
   ·rintro U _ I;obtain⟨rfl,done,A,e4,e5,rfl⟩:=I
    obtain rfl:A=[]:=by cases A with | nil=>rfl | cons _ _=>cases e5
    rw[bI] at e4;subst e4;refine⟨d6 _ _ _,λa ha=>?_⟩
    have hra:=j7 (i4 M he) ha;k_extra"bN"
    k_extra"w"
    ·rename_i qi
     refine Za (λ_ k_=>k_ H G _ _ E P (λq=>?_) (c.trans ((e9.new he).trans (e9.new ha))) (by k_extra"h") rfl)
     by_cases K:w=i
     ·rw[K];exact qi
     ·exact u (rB q K)
    ·rename_i qi b hb
     have hrb:=j7 (i4 (i4 M he) ha) hb;have k3:=c.trans (((e9.new (x:=.L (l.map .int)) he).trans (e9.new (x:=.L ((l.filter λj=>!decide (j∈H)).map .int)) ha)).trans (e9.new (x:=.L []) hb))
     refine cm6 (by k_extra"d") ?_
     cases hf:(l.filter λj=>!decide (j∈H)).isEmpty with
     | true=>
      k_extra"w";refine Za (λ_ k_=>k_ (H++[(i:Int)]) (G++[(i:Int)]) _ _ (by rw[E,bH]) (P.snoc R qi (hNm.mpr (bx.mp hf))) (λq=>?_) (k3.trans (e9.upd (by k_extra"m"))) (by rw[d6,aN];rfl) rfl)
      by_cases K:w=i
      ·rw[K];simp
      ·exact bu _ (u (by exact rB q K))
     | false=>
      k_extra"w";refine Za (λ_ k_=>k_ H G _ _ E P (λq=>?_) k3 (by k_extra"h") rfl)
      by_cases K:w=i
      ·have:(l.filter λj=>!decide (j∈H))=[]:=hNm.mp (K▸λj hj=>E▸bu _ (hwN j hj))
       rw[this] at hf;cases hf
      ·exact u (by exact rB q K)
  ·k_extra"bW"
   have e2:((rh.length:Int)-0).toNat=rh.length:=D4 _;rw[e2] at u;have hin:=u hw;have Y:=L4 P.nd P.rg;have S:O.length<H.length:=by
    cases G with
    | nil=>rw[bI] at E;rw[E] at hin;exact absurd hin hwO
    | cons x G=>rw[E,aK,bD];lia
   exact hW (j:=rh.length-H.length) (Nat.sub_lt_sub_left (aX S Y) S) ⟨H,o2,o3,P,rfl,hS.trans c,M,rfl⟩
 ·rename_i Ja
  have hle:O.length=rh.length:=by exact bm4 hOl hOz Ja
  refine hB (p0.r (Z':=upd Z r (.L (O.map .int))) (λa o e=>?_) (h r O hr hO hle))
  by_cases q:a=r
  ·rw[q,d6] at e;rw[q,hr'];exact e
  ·rw[e8 _ _ q] at e;exact hS a o (j9 q) (i4 e hr)
end
def AlJ(O:List Int)(n:Nat)(f:Int->Int)(I:Addr)(x:Hp)(q:Option V->Lo)(rest:List V)(w:Lo)(Z':Hp):Prop:=
 ∀ u:Prop,(∀ (done L c:List Int) (o:Option V) (E:O=done++L) (C:rest=L.map .int) (hl:c.length=n) (T:∀ j∈done,c.getD j.toNat 0=f j) (y:Z'=upd x I (.L (c.map .int))) (P:w=q o),u)->u
def AyJ(rh tb:List V)(rk:Int->Nat)(Us:List (List (Str×Int)))(Ts:List (List Bool))(fm r y t:V)(q:Addr)(Z:Hp)(i:Nat)(w:Lo)(Z':Hp):Prop:=
 ∀ x:Prop,(∀ (u:Addr) (cs:List Addr) (Za R o3 C:Option V) (I:Sub Z Z') (H:NZ Z') (T:Z' q=some (.L (cs.map .ref))) (E:PAt Z' cs (hL rh tb rk Us Ts i)) (F:Z' u=some (.L ((eY rh tb rk Us Ts i).map .int)))
  (A:u≠q) (L:∀ c∈cs,c≠q) (nw:∀ c∈cs,Z c=none) (e:w=[some fm,some r,some y,some t,some (.ref q),some (.ref u),Za,R,o3,C]),x)->x
theorem YG{l:List Int}(h:i<l.length)(j:Nat):(l.set i x).getD j 0=if i=j then x else l.getD j 0:=by
 rw[aP,aP,fU];by_cases q:i=j
 ·rw[if_pos q,if_pos q,if_pos h];rfl
 ·rw[if_neg q,if_neg q]
theorem map_set{q c:Type}(f:q->c)(l:List q)(i:Nat)(x:q):(l.map f).set i (f x)=(l.set i x).map f:=(jE).symm
theorem WW:(aC n [V.int 0]).flatten=(aC n (0:Int)).map .int:=by
 induction n with
 | zero=>rfl
 | succ n ih=>rw[gA,gP,ih];rfl
theorem bv6{rk:Int->Nat}{c O:List Int}(hl:c.length=rh.length)(S:∀ i,i<rh.length->(i:Int)∈O)(T:∀ j∈O,c.getD j.toNat 0=sol rh y rk j):c=C4 rh y rk:=by
 apply gO;intro i;unfold C4;rw[aB];by_cases h:i<rh.length
 ·have:=T i (S i h)
  rw[dg,aP,ak (hl▸h)] at this;rw[dK h,ak (hl▸h)];exact congrArg some this
 ·rw[cO (by rw[hl];exact bU h),cO (by rw[bO];exact bU h)];rfl
section
variable{g:G}{Q:V->Hp->Prop}
set_option tactic.hygienic true in
theorem Ej(N:Nm g)(hD:11<=D)(F:FG rh tb C w rk){O:List Int}(hr:Z r=some (.L (O.map .int)))(hO:Tp rh O)(hOl:O.length=rh.length)
  (H:HIn Z ya ta as bs Us Ts C) (nz:NZ Z)
  (h:∀ Z' b cs,Sub Z Z'->NZ Z'->Z' b=some (.L (cs.map .ref))->PAt Z' cs (hL rh tb rk Us Ts Ts.length)->(∀ c∈cs,Z c=none)->Z b=none->Q (.ref b) Z') :
  d8 g D true "_law_all" [fmV rh tb C w,.ref r,.ref ya,.ref ta] Z Q X:=by
 refine bd N Pq (by k_extra"b") hD λcx p=>?_
 k_extra"aX"
 k_extra"do"
 have l40:=F.l40;have Ja:(as.map V.ref).length=Ts.length:=by rw[aq];exact la
 have lOm:(O.map V.int).length=rh.length:=by rw[aq];exact hOl
 k_extra"w";rename_i fa Za ea A;refine x3 p (AyJ rh tb rk Us Ts (fmV rh tb C w) (.ref r) (.ref ya) (.ref ta) fa Z) (λ_ k_=>k_ ea [] none none none none ((Sub.upd Za).trans (Sub.upd A)) ((nz.upd rfl).upd rfl) (i4 (d6 _ _ _) A) PAt.nil (d6 _ _ _) ((j3 A).1) (λc hc=>(by cases hc)) (λc hc=>(by cases hc)) rfl) (λcx p hB i hi hJ=>?_) ?_
 ·k_extra"a9"
  k_extra"L";have hi:i<Ts.length:=nA Ja hi;k_extra"Q"
  k_extra"bF"
  have mu:=aL hU;have mT:=aL hT;have tz':T.length<=100:=by have:=tz T mT;have:=F.c8;exact sG (by assumption) this
  have Y:=S _ _ hr;have hy':=S _ _ hy;have ht':=S _ _ ht;k_extra"w";rename_i z hz la y;have U:=(j3 y).2;refine i8 i (.ref a) rfl (by rw[aB,ha];rfl) (xV zz Ja (by assumption)) ?_
  k_extra"w";refine i8 i (.ref b) rfl (by rw[aB,hb];rfl) (xV zz Ja (by assumption)) ?_
  rw[lOm,dg,WW];have hfz:fa≠z:=j7 hf hz;have R:fa≠la:=j7 hf U;have P:Sub Z' (upd Z' z (.L [.int 0])):=Sub.upd hz;generalize hτ:upd Z' z (.L [.int 0])=τ at y P ⊢;have hyr:∀ {M:List Int},M.length=rh.length->SgAt (upd τ la (.L (M.map .int))) ⟨rh.length,tb.length,C⟩ ⟨u,eY rh tb rk Us Ts i,T,tb⟩ M la a ea b:=fun{M} hl=>
   ⟨d6 _ _ _,i4 (P _ _ (S _ _ hau)) y,(gp u mu).nd,by unfold dS;rw[aq];exact aj (uz u mu) (by decide),i4 (P _ _ he) y,i4 (P _ _ (S _ _ hbt)) y,by rw[hl];exact uM l40,uG (uN i) l40,tz T mT,rfl,tz',aj F.t5 (by decide),λt ht=>(F.tab t ht).1⟩
  refine LoopR.held (O.map .int) (i4 (P _ _ Y) y) (Loop.g p (AlJ O rh.length (sol rh ⟨u,eY rh tb rk Us Ts i,T,tb⟩ rk) la τ (λo=>[some (fmV rh tb C w),some (.ref r),some (.ref ya),some (.ref ta),some (.ref fa),some (.ref ea),some (.int i),some (.ref la),some (.tup [.ref la,.ref a,.ref ea,.tup tb,.ref b]),o])) (λ_ k_=>k_ [] O _ _ rfl rfl bK (λj hj=>(by cases hj)) rfl rfl) (λcx p hB v rest hJ2=>?_) ?_)
  ·k_extra"by"
   refine⟨i4 (P _ _ Y) y,?_⟩;cases todo with
   | nil=>cases e2
   | cons x todo=>
    k_extra"aJ";rw[qa] at hJ2 e2
    subst e3;obtain⟨x0,x1⟩:=hO.rg x (by rw[e1];simp)
    refine d4 (bM x0) λk qa=>?_;subst qa
    have K:k<rh.length:=pZ x1;have hnd:(k:Int)∉done:=λq=>(cA.mp (e1▸hO.nd)).2.2 _ q _ (.head _) rfl
    have hll:(M.map V.int).length=rh.length:=by rw[aq];exact hl
    k_extra"w";refine i8 k _ rfl (C3 (x:=.none) K) (aj (bN (aQ.mp x1)) (aj l40 (by decide))) (JP (hyr hl) 8 p.N (p.dd (by decide)) (F.lnk.ok k K) ?_)
    have ev:wv ⟨u,eY rh tb rk Us Ts i,T,tb⟩ (λi=>M.getD i.toNat 0) 8 (rh.getD k .none)=sol rh ⟨u,eY rh tb rk Us Ts i,T,tb⟩ rk k:=by
     rw[<- oK F.lnk K];exact Y7 (F.lnk.ok k K) λj hj=>E j (hO.nm e1 j hj)
    rw[ev];k_extra"w";refine hJ2 (λ_ k_=>k_ (done++[(k:Int)]) todo (M.set k (sol rh ⟨u,eY rh tb rk Us Ts i,T,tb⟩ rk k)) _ (by rw[e1,bH];rfl) rfl (by rw[bZ];exact hl) (λj hj=>?_) (by rw[dg,map_set]) rfl)
    rw[YG (hl▸K)];rcases aH.mp hj with q | q
    ·rw[if_neg fun(e:k=j.toNat)=>hnd (by have:=(hO.rg j (by rw[e1];exact bu _ q)).1;rw[e,bQ this];exact q)];exact E j q
    ·rw[aA.mp q,dg,if_pos rfl]
  ·k_extra"by"
   refine⟨i4 (P _ _ Y) y,?_⟩;k_extra"9"
   rw[bI] at e1;rw[<- e1] at E;have eL:M=eY rh tb rk Us Ts (i+1):=by rw[U3 hU hT];exact bv6 hl (λk K=>zj hOl hO.nd hO.rg K) E
   subst eL;have hfa':=i4 (o:=.L ((eY rh tb rk Us Ts (i+1)).map .int)) (P _ _ hf) y;have hcl:(cs.map V.ref).length<=10000:=by rw[aq,hP.len,rZ];exact Hs zz Ja (by assumption)
   k_extra"w";have em:cs.map V.ref++[V.ref la]=(cs++[la]).map V.ref:=by rw[aN];rfl
   rw[em];refine hJ (λ_ k_=>k_ la (cs++[la]) _ _ _ _ (λc o e=>?_) (((hτ▸hn.upd rfl).upd qD).upd D3) (d6 _ _ _) ?_ (by rw[e8 _ _ R.symm];exact d6 _ _ _) R.symm (λc hc=>?_) (λc hc=>?_) rfl)
   ·rw[e8 _ _ (j7 e Za)];exact Sub.upd y _ _ (P _ _ (S _ _ e))
   ·rw[yo]
    exact(((hP.sub P).sub (Sub.upd y)).stay (e9.upd (by k_extra"m")) λc hc=>j9 (L c hc)).snoc (by rw[e8 _ _ R.symm];exact d6 _ _ _)
   ·k_extra"cz"
    ·exact L c q
    ·rw[aA.mp q];exact R.symm
   ·k_extra"cz"
    ·exact nw c q
    ·rw[aA.mp q];exact j4 S U
 ·k_extra"a9"
  have e2:(((as.map V.ref).length:Int)-0).toNat=Ts.length:=by rw[Ja];exact D4 _
  rw[e2] at hP;k_extra"w";exact p.h (h Z' fa cs S hn hf hP nw Za)
end
noncomputable def rwV(f:Nat->Nat->Int)(m y:Nat):List V:=(bh m).map λl=>V.int (f y l)
def k8(f:Nat->Nat->Int)(m n:Nat):List (List V):=(bh n).map (rwV f m)
noncomputable def cel(f g:Nat->Nat->Int)(y l:Nat):List V:=bif f y l==g y l then[] else[.tup [.int y,.int l]]
def C7(f g:Nat->Nat->Int)(y m:Nat):List V:=(bh m).flatMap (cel f g y)
def chg(f g:Nat->Nat->Int)(m n:Nat):List V:=(bh n).flatMap λy=>C7 f g y m
section
variable{f g:Nat->Nat->Int}{m n y l:Nat}
theorem V7:C7 f g y (m+1)=C7 f g y m++cel f g y m:=by unfold C7;rw[dY,lK,kh]
theorem uL:chg f g m (n+1)=chg f g m n++C7 f g n m:=by unfold chg;rw[dY,lK,kh]
theorem Lw(h:f y l=g y l):cel f g y l=[]:=by unfold cel;rw[beq_iff_eq.mpr h];rfl
theorem Jx(h:f y l≠g y l):cel f g y l=[.tup [.int y,.int l]]:=by unfold cel;rw[beq_eq_false_iff_ne.mpr h];rfl
theorem Su:(cel f g y l).length<=1:=by unfold cel;cases f y l==g y l<;>first | exact aV _ | exact aY _
theorem rn:(C7 f g y m).length<=m:=by
 induction m with
 | zero=>exact aV _
 | succ m c=>rw[V7,aK];exact fY c Su
theorem tW:(chg f g m n).length<=n*m:=by
 induction n with
 | zero=>exact aY _
 | succ n c=>rw[uL,aK,Nat.succ_mul];exact fY c rn
theorem LR(h:x∈cel f g y l):∃ i j:Int,x=.tup [.int i,.int j]:=by
 unfold cel at h;cases q:f y l==g y l with
 | true=>rw[q] at h;cases h
 | false=>rw[q] at h;exact⟨_,_,aA.mp h⟩
theorem ur(h:x∈chg f g m n):∃ i j:Int,x=.tup [.int i,.int j]:=by
 refine a7 (List.mem_flatMap.mp h) λy N h=>a7 (List.mem_flatMap.mp h) λl N h=>?_
 exact LR h
theorem Es:Fl (chg f g m n):=.of λx hx=>by
 refine k9 (ur hx) λi j qa=>?_;subst qa
 exact⟨rfl,aV 1⟩
theorem rG:nzO (.L (chg f g m n))=true:=v4 λx hx=>by
 refine k9 (ur hx) λi j qa=>?_;subst qa;rfl
theorem bm2:cel f g y l=cel g f y l:=by unfold cel;rw[Bool.beq_comm (a:=f y l)]
theorem bK6:chg f g m n=chg g f m n:=by
 unfold chg C7
 congr 1;funext y
 congr 1;funext l
 exact bm2
theorem G3(h:y<n):(k8 f m n)[y]?=some (rwV f m y):=by unfold k8;rw[aB,dK h];rfl
theorem I0(h:l<m):(rwV f m y)[l]?=some (.int (f y l)):=by unfold rwV;rw[aB,dK h];rfl
theorem Y5:(rwV f m y).length=m:=by unfold rwV;rw[aq,bO]
theorem G5:(k8 f m n).length=n:=by unfold k8;rw[aq,bO]
end
theorem Ha{L:List Int}:L.map V.int=(bh L.length).map λl=>V.int (L.getD l 0):=by
 apply gO;intro i;rw[aB,aB];by_cases h:i<L.length
 ·rw[dK h,ak h,iH,iH,aP,ak h];rfl
 ·rw[cO (bU h),cO (by rw[bO];exact bU h)];rfl
def yF(rh tb:List V)(rk:Int->Nat)(Us:List (List (Str×Int)))(Ts:List (List Bool))(y l:Nat):Int:=(eY rh tb rk Us Ts (y+1)).getD l 0
theorem QG(Za:k<Us.length)(S:k<Ts.length):(eY rh tb rk Us Ts (k+1)).length=rh.length:=by
 rw[U3 (ak Za) (ak S)];exact Bu
theorem pL{n:Nat}(Za:n<=Us.length)(S:n<=Ts.length):hL rh tb rk Us Ts n=k8 (yF rh tb rk Us Ts) rh.length n:=by
 unfold hL k8;refine dN λy I=>?_
 have I:=bY.mp I;have hl:=QG (rh:=rh) (tb:=tb) (rk:=rk) (k:=y) (aX I Za) (aX I S);rw[Ha,hl];rfl
def ChJ(c:Option V->Option V->Lo)(L:Nat->List V)(u:Addr)(x:Hp)(i:Nat)(w:Lo)(Z':Hp):Prop:=
 ∀ q:Prop,(∀ (Za R:Option V) (E:Z'=upd x u (.L (L i))) (C:w=c Za R),q)->q
section
variable{g:G}{Q:V->Hp->Prop}
set_option tactic.hygienic true in
theorem bL5(N:Nm g)(hD:1<=D){A:Addr}{f h':Nat->Nat->Int}{m n:Nat}(M:Z A=some (.L (as.map .ref)))(Y:Z H=some (.L (bs.map .ref)))(O:PAt Z as (k8 f m n))(u:PAt Z bs (k8 h' m n))(hm:m<=40)(L:n<=8)
  (h:∀ b,Z b=none->Q (.ref b) (upd Z b (.L (chg f h' m n)))):d8 g D true "_law_changed" [.ref A,.ref H] Z Q X:=by
 refine bd N bu5 (by k_extra"b") hD λcx p=>?_
 have I:(as.map V.ref).length=n:=by rw[aq,O.len,G5]
 k_extra"w";rename_i x c;refine x3 p (ChJ (λo1 o2=>[some (.ref A),some (.ref H),some (.ref x),o1,o2]) (chg f h' m) x Z) (λ_ k_=>k_ none none rfl rfl) (λcx p P i K hJ=>?_) ?_
 ·k_extra"2"
  k_extra"L";have K:i<n:=by exact nA I K
  refine a7 (O.get (G3 K)) λa E R=>a7 (u.get (G3 K)) λb C T=>?_
  have Ja:(as.map V.ref)[i]?=some (.ref a):=by rw[aB,E];rfl
  have U:(bs.map V.ref)[i]?=some (.ref b):=by rw[aB,C];rfl
  have lr:(rwV f m i).length=m:=Y5;k_extra"w";refine i8 i _ rfl Ja (by exact O7 L I (by assumption)) ?_
  k_extra"w";refine x3 p (ChJ (λ_ o2=>[some (.ref A),some (.ref H),some (.ref x),some (.int i),o2]) (λj=>chg f h' m i++C7 f h' i j) x Z) (λ_ k_=>k_ o1 o2 (by show _=upd Z x (.L (chg f h' m i++[]));rw[bI]) rfl) (λcx p P j hj hJ2=>?_) ?_
  ·k_extra"2"
   have e0:(0:Int)+(j:Int)=j:=bJ _;rw[e0];have hj:j<m:=nA lr hj;k_extra"w";refine i8 i _ rfl Ja (O7 L I (by assumption)) ?_
   k_extra"bT"
   k_extra"w";refine i8 i _ rfl U (O7 L I (by assumption)) ?_
   k_extra"bT"
   have F:(chg f h' m i++C7 f h' i j).length<=10000:=by
    rw[aK];have S:=rn (f:=f) (g:=h') (y:=i) (m:=j);have:i*m<=8*40:=kY (xR L I (by assumption)) hm
    exact yE hm lr (by assumption) (tW (f:=f) (g:=h') (m:=m) (n:=i)) S this
   k_extra"w"
   ·rename_i q
    k_extra"bZ"
   ·rename_i q
    k_extra"b0"
  ·k_extra"2"
   have C:(((rwV f m i).length:Int)-0).toNat=m:=by rw[lr];exact D4 _
   rw[C];exact hJ (λ_ k_=>k_ _ _ (by rw[uL]) rfl)
 ·k_extra"2"
  have C:(((as.map V.ref).length:Int)-0).toNat=n:=by rw[I];exact D4 _
  rw[C];k_extra"w";exact p.h (h x c)
end
noncomputable def T2(fm:V)(pa ma ra:Addr):List (Str×V):=[("rows",.ref ra),("marks",.ref ma),("papers",.ref pa),("form",fm)]
theorem bX1{fm:V}:B4 (T2 fm pa ma ra) "rows" (.ref L)=T2 fm pa ma L:=by
 unfold B4 T2;rw[dw,if_neg (by simp),dw,if_pos (by simp;decide +kernel),dw,if_pos (by simp;decide +kernel),dw,if_pos (by simp;decide +kernel)];rfl
structure DsAt(Z:Hp)(cs:List Addr)(U:List (List (Str×Int))):Prop where
 len:cs.length=U.length
 at':∀ {j:Nat} {c:Addr} {u:List (Str×Int)},cs[j]?=some c->U[j]?=some u->Z c=some (.ds (dS u))
theorem DsAt.sub(h:DsAt Z cs U)(k:Sub Z Z'):DsAt Z' cs U:=⟨h.len,λE c=>k _ _ (h.at' E c)⟩
theorem DsAt.get(h:DsAt Z cs U){j:Nat}{u:List (Str×Int)}(e:U[j]?=some u):∃ c,cs[j]?=some c/\Z c=some (.ds (dS u)):=by
 k_extra"bK"
structure RkAt(Z:Hp)(fm:V)(x d pa ma:Addr)(fs:List (Str×V))(pds mks:List Addr)(U:List (List (Str×Int)))(T:List (List Bool)):Prop where
 hx:Z x=some (.ob "File" d)
 hd:Z d=some (.na fs)
 f1:(aa "papers",V.ref pa)∈fs
 f2:(aa "form",fm)∈fs
 f3:(aa "marks",V.ref ma)∈fs
 hp:Z pa=some (.L (pds.map .ref))
 hm:Z ma=some (.L (mks.map .ref))
 pd:DsAt Z pds U
 mb:PAt Z mks (T.map (·.map .bool))
structure FlAt(Z:Hp)(fm:V)(x d pa ma ra:Addr)(pds mks rws:List Addr)(U:List (List (Str×Int)))(T:List (List Bool))(R:List (List V)):Prop where
 hx:Z x=some (.ob "File" d)
 hd:Z d=some (.na (T2 fm pa ma ra))
 hp:Z pa=some (.L (pds.map .ref))
 hm:Z ma=some (.L (mks.map .ref))
 hr:Z ra=some (.L (rws.map .ref))
 pd:DsAt Z pds U
 mb:PAt Z mks (T.map (·.map .bool))
 ro:PAt Z rws R
 np:pds.Nodup
 nm:mks.Nodup
 a1:pa∉mks
 a2:ma∉mks
 a3:ra∉mks
 a4:∀ c∈rws,c∉mks
section
variable{fm:V}{x d:Addr}{R:List (List V)}{K:V->Prop}{P:Prop}
theorem FlAt.sub(h:FlAt Z fm x d pa ma ra pds mks rws U T R)(k:Sub Z Z'):FlAt Z' fm x d pa ma ra pds mks rws U T R:=⟨k _ _ h.hx,k _ _ h.hd,k _ _ h.hp,k _ _ h.hm,k _ _ h.hr,h.pd.sub k,h.mb.sub k,h.ro.sub k,h.np,h.nm,h.a1,h.a2,h.a3,h.a4⟩
theorem FlAt.rk(h:FlAt Z fm x d pa ma ra pds mks rws U T R):RkAt Z fm x d pa ma (T2 fm pa ma ra) pds mks U T:=⟨h.hx,h.hd,.tail _ (.tail _ (.head _)),.tail _ (.tail _ (.tail _ (.head _))),.tail _ (.head _),h.hp,h.hm,h.pd,h.mb⟩
theorem FlAt.rows(h:FlAt Z fm x d pa ma ra pds mks rws U T R)(k:K (.ref ra)):AAt Z x "File" "rows" K:=.mk d _ _ h.hx h.hd (.head _) k
theorem FlAt.marks(h:FlAt Z fm x d pa ma ra pds mks rws U T R)(k:K (.ref ma)):AAt Z x "File" "marks" K:=.mk d _ _ h.hx h.hd (.tail _ (.head _)) k
theorem FlAt.papers(h:FlAt Z fm x d pa ma ra pds mks rws U T R)(k:K (.ref pa)):AAt Z x "File" "papers" K:=.mk d _ _ h.hx h.hd (.tail _ (.tail _ (.head _))) k
theorem FlAt.form(h:FlAt Z fm x d pa ma ra pds mks rws U T R)(k:K fm):AAt Z x "File" "form" K:=.mk d _ _ h.hx h.hd (.tail _ (.tail _ (.tail _ (.head _)))) k
theorem FlAt.m{nm:Str}(h:FlAt Z fm x d pa ma ra pds mks rws U T R)(c:([aa "rows",aa "marks",aa "papers",aa "form"]).contains nm=false)(k:P):OAt Z x "File" nm P:=.mk d _ h.hx h.hd c k
end
def ItJ(u:Hp)(cs:List Addr)(U:List (List (Str×Int)))(rest acc:List V)(Z':Hp):Prop:=
 ∀ c:Prop,(∀ (I L q:List Addr) (E:cs=I++L) (w:rest=L.map .ref) (A:acc=q.map .ref) (H:Sub u Z') (F:NZ Z') (y:PAt Z' q ((U.take I.length).map (·.map tS))),c)->c
theorem zP(u:List (Str×Int)):(dS u).map F1=u.map tS:=by unfold dS;rw[cR];rfl
theorem M8{u:List (Str×Int)}:nzO (.L (u.map tS))=true:=v4 λx q=>by refine a7 (aM.mp q) λc N Ja=>?_;subst Ja;rfl
section
variable{g:G}{Q:V->Hp->Prop}{C:Int}{rk:Int->Nat}{x d:Addr}{R:List (List V)}
theorem wD(N:Nm g)(hD:15<=D)(F:FG rh tb C ow rk)(A:RkAt Z (fmV rh tb C ow) x d pa ma L pds mks U T)(lu:U.length=T.length)(gp:∀ u∈U,GP u)(uz:∀ u∈U,u.length<=1000)(tz:∀ t∈T,(t.length:Int)=C)(zz:T.length<=100)(nz:NZ Z)
  (h:∀ Z' b cs,Sub Z Z'->NZ Z'->Z' b=some (.L (cs.map .ref))->PAt Z' cs (hL rh tb rk U T T.length)->(∀ c∈cs,Z c=none)->Z b=none->Q (.ref b) Z') :
  d8 g D true "File.reckon" [.ref x] Z Q X:=by
 refine bd N YH (by k_extra"b") hD λcx p=>?_
 k_extra"w";refine AAt.mk d L _ A.hx A.hd A.f1 ?_;have lp:pds.length<=100:=by rw[A.pd.len,lu];exact zz
 refine Look.mk _ A.hp (CLoop.g p (ItJ Z pds U) (by rw[aq];exact nq lp) (λz_ Y=>Y [] pds [] rfl rfl rfl (Sub.refl _) nz PAt.nil) (λcx p v rest M hJ hN=>?_) ?_)
 ·clear hN;rintro Z' E;k_extra"cL"
  refine⟨w _ _ A.hp,?_⟩;cases d2 with
  | nil=>cases e2
  | cons c d2=>
   k_extra"ab";rw[qb] at hJ e2
   have hc:pds[I.length]?=some c:=by rw[e1,cH (aV _),gG];rfl
   have q:=(aF.mp hc).1;rw[A.pd.len] at q;have hu:=ak q;refine Itms.mk _ (w _ _ (A.pd.at' hc hu)) (by unfold dS;rw[aq];exact aj (uz _ (cT q)) (by decide)) λb hb=>hJ (λz_ Y=>Y (I++[c]) d2 (O++[b]) (by rw[e1,bH];rfl) rfl (by rw[aN];rfl) (w.trans (Sub.upd hb)) (S.upd (by rw[zP];exact M8)) ?_)
   rw[aK,gf,fQ,hu,aN,zP];exact(y.sub (Sub.upd hb)).snoc (d6 _ _ _)
 ·rintro M Z' E;k_extra"cL"
  refine⟨w _ _ A.hp,λya H=>?_⟩
  k_extra"F"
  rw[bI] at e1;clear e2;rw[<- e1] at y;rw[A.pd.len,gj] at y;have Za:=w.trans (Sub.upd (o:=.L (O.map .ref)) H);k_extra"w";refine AAt.mk d L _ (Za _ _ A.hx) (Za _ _ A.hd) A.f2 ?_;k_extra"w";refine AAt.mk d L _ (Za _ _ A.hx) (Za _ _ A.hd) A.f3 (bT1 p.N (p.dd (by decide)) F ⟨d6 _ _ _,Za _ _ A.hm,y.sub (Sub.upd H),A.mb.sub Za,lu,gp,uz,tz,zz⟩ (S.upd D3) λJa b cs k1 k2 k3 k4 k5 k6=>?_)
  exact p.h (h Ja b cs (Za.trans k1) k2 k3 k4 (λc hc=>j4 Za (k5 c hc)) (j4 Za k6))
set_option tactic.hygienic true in
theorem V6(N:Nm g)(hD:2<=D){fm:V}(A:FlAt Z fm x d pa ma ra pds mks rws U T R)(hz:rws.length<=100)(ok:Ok Z v)(Za:f9 v 0 ((rws.length:Int)-1)=true->Q .none Z)(S:f9 v 0 ((rws.length:Int)-1)=false->X "NoYear" Z) :
  d8 g D true "File.need_year" [.ref x,v] Z Q X:=by
 refine bdn N Nz (by k_extra"b") hD λcx p c=>?_
 have u:=A.hr;have hl:(rws.map V.ref).length=rws.length:=aq _;k_extra"w";refine A.rows ?_;k_extra"w";refine F7 p.N (p.dd (by decide)) ok ?_
 rw[hl];k_extra"w"
 ·rename_i q
  exact c (Sub.refl _) (Za q)
 ·rename_i q
  exact p.x (S q)
end
def AObj.kd(o:AObj):Nat:=match o with
 | .L _=>0
 | .di _=>1
 | .ds _=>2
 | .ex _=>3
 | .ob _ _=>4
 | .na _=>5
theorem r6(M:Z a=some o)(O:Z c=some o')(h:o.kd≠o'.kd):a≠c:=λe=>by
 rw[e,O] at M;exact h (congrArg AObj.kd (d7 M)).symm
noncomputable def B5(u:List (Str×Int))(w:Str)(i:Int):List (Str×Int):=if u.any (λp=>decide (p.1=w)) then u.map (λp=>if p.1=w then(w,i) else p) else u++[(w,i)]
theorem Pn(u:List (Str×Int))(w:Str)(i:Int):x7 (dS u) w (.int i)=dS (B5 u w i):=by
 unfold x7 B5 dS;have e:(u.map λp=>(p.1,V.int p.2)).any (λq=>decide (q.1=w))=u.any λp=>decide (p.1=w):=by rw[lQ];rfl
 rw[e];by_cases q:(u.any λp=>decide (p.1=w))=true
 ·rw[if_pos q,if_pos q,cR,cR]
  refine dN λp N=>?_
  by_cases z:p.1=w
  ·simp[z]
  ·simp[z]
 ·rw[if_neg q,if_neg q,aN];rfl
theorem Sw:nzO (.ds (dS u))=true:=by
 show nzL ((dS u).map (·.2))=true
 unfold dS;rw[cR];exact v4 λx q=>by refine a7 (aM.mp q) λc N Ja=>?_;subst Ja;rfl
theorem Q5{T:List Bool}:nzO (.L (T.map .bool))=true:=v4 λx q=>by refine a7 (aM.mp q) λc N Ja=>?_;subst Ja;rfl
theorem Dc{l:List Addr}(hn:l.Nodup){j:Nat}{x:Addr}(hi:l[i]?=some x)(hj:l[j]?=some x):i=j:=by
 k_extra"aS"
theorem PAt.set{cs:List Addr}{u:List (List V)}(h:PAt Z cs u)(hn:cs.Nodup){c:Addr}(hc:cs[y]?=some c)(x:List V):PAt (upd Z c (.L x)) cs (u.set y x):=
 ⟨by rw[bZ];exact h.len,fun{j c' z} e1 e2=>by
  rw[fU] at e2;by_cases q:y=j
  ·subst q
   k_extra"ci";by_cases A:y<u.length
   ·rw[if_pos A] at e2;rw[d6,d7 e2]
   ·rw[if_neg A] at e2;cases e2
  ·rw[if_neg q] at e2
   rw[e8 _ _ (λe=>q (Dc hn hc (by rw[<- e];exact e1)))];exact h.at' e1 e2⟩
theorem DsAt.set{cs:List Addr}(h:DsAt Z cs U)(hn:cs.Nodup){c:Addr}(hc:cs[y]?=some c)(u:List (Str×Int)):DsAt (upd Z c (.ds (dS u))) cs (U.set y u):=
 ⟨by rw[bZ];exact h.len,fun{j c' z} e1 e2=>by
  rw[fU] at e2;by_cases q:y=j
  ·subst q
   k_extra"ci";by_cases A:y<U.length
   ·rw[if_pos A] at e2;rw[d6,d7 e2]
   ·rw[if_neg A] at e2;cases e2
  ·rw[if_neg q] at e2
   rw[e8 _ _ (λe=>q (Dc hn hc (by rw[<- e];exact e1)))];exact h.at' e1 e2⟩
section
variable{g:G}{Q:V->Hp->Prop}{C:Int}{rk:Int->Nat}{x d:Addr}{R:List (List V)}{fm:V}
theorem FlAt.put(A:FlAt Z fm x d pa ma ra pds mks rws U T R)(L:U[y]?=some u)(O:pds[y]?=some c)(q:List (Str×Int)):FlAt (upd Z c (.ds (dS q))) fm x d pa ma ra pds mks rws (U.set y q) T R:=by
 have h:=A.pd.at' O L;have k:∀ {a l},Z a=some (.L l)->upd Z c (.ds (dS q)) a=some (.L l):=λe=>p8 e (r6 e h (show(0:Nat)≠2 by decide))
 exact⟨p8 A.hx (r6 A.hx h (show(4:Nat)≠2 by decide)),p8 A.hd (r6 A.hd h (show(5:Nat)≠2 by decide)),k A.hp,k A.hm,k A.hr,A.pd.set A.np O q,⟨A.mb.len,λE w=>k (A.mb.at' E w)⟩,⟨A.ro.len,λE w=>k (A.ro.at' E w)⟩,A.np,A.nm,A.a1,A.a2,A.a3,A.a4⟩
theorem FlAt.take(A:FlAt Z fm x d pa ma ra pds mks rws U T R)(F:T[y]?=some t)(O:mks[y]?=some c)(w:List Bool):FlAt (upd Z c (.L (w.map .bool))) fm x d pa ma ra pds mks rws U (T.set y w) R:=by
 have h:=A.mb.at' O (x:=t.map .bool) (by rw[aB,F];rfl)
 have k:∀ {a:Addr},a∉mks->a≠c:=λq e=>q (by rw[e];exact(aL O))
 have e:(T.set y w).map (·.map V.bool)=(T.map (·.map V.bool)).set y (w.map .bool):=jE
 exact⟨p8 A.hx (r6 A.hx h (show(4:Nat)≠0 by decide)),p8 A.hd (r6 A.hd h (show(5:Nat)≠0 by decide)),p8 A.hp (k A.a1),p8 A.hm (k A.a2),p8 A.hr (k A.a3),⟨A.pd.len,λE u=>p8 (A.pd.at' E u) (r6 (A.pd.at' E u) h (show(2:Nat)≠0 by decide))⟩,by rw[e];exact A.mb.set A.nm O _,⟨A.ro.len,λE u=>p8 (A.ro.at' E u) (k (A.a4 _ (aL E)))⟩,A.np,A.nm,A.a1,A.a2,A.a3,A.a4⟩
structure Yrs(C:Int)(U:List (List (Str×Int)))(T:List (List Bool)):Prop where
 lu:U.length=T.length
 gp:∀ u∈U,GP u
 uz:∀ u∈U,u.length<=1000
 tz:∀ t∈T,(t.length:Int)=C
 zz:T.length<=8
set_option tactic.hygienic true in
theorem Wv(N:Nm g)(hD:16<=D)(F:FG rh tb C ow rk)(A:FlAt Z (fmV rh tb C ow) x d pa ma ra pds mks rws U T (k8 f rh.length T.length))(Y:Yrs C U T)(nz:NZ Z)
  (h:∀ Z' w rb cs,e9 [d] Z Z'->NZ Z'->FlAt Z' (fmV rh tb C ow) x d pa ma rb pds mks cs U T (k8 (yF rh tb rk U T) rh.length T.length)->Z' w=some (.L (chg f (yF rh tb rk U T) rh.length T.length))->(∀ c∈w::rb::cs,Z c=none)->w≠rb->w∉cs->Q (.ref w) Z') :
  d8 g D true "File.renew" [.ref x] Z Q X:=by
 refine bd N bF7 (by k_extra"b") hD λcx p=>?_
 have l40:=F.l40;have zz:=Y.zz;k_extra"w";refine A.m (by k_extra"#") (wD p.N (p.dd (by decide)) F A.rk Y.lu Y.gp Y.uz Y.tz (aj zz (by decide)) nz λu b cs k1 k2 k3 K k5 k6=>?_)
 rw[pL (aG Y.lu.symm) (aV _)] at K;have lb:(cs.map V.ref).length=T.length:=by rw[aq,K.len,G5]
 k_extra"w";rename_i w H;have A1:∀ {L:List V},FlAt (upd u w (.L L)) (fmV rh tb C ow) x d pa ma ra pds mks rws U T (k8 f rh.length T.length):=A.sub (k1.trans (Sub.upd H));refine x3 p (ChJ (λo1 o2=>[some (.ref x),some (.ref b),some (.ref w),o1,o2]) (chg (yF rh tb rk U T) f rh.length) w u) (λ_ k_=>k_ none none rfl rfl) (λcx p hB i Za hJ=>?_) ?_
 ·k_extra"3"
  k_extra"L";have Za:i<T.length:=by exact nA lb Za
  refine a7 (K.get (G3 Za)) λa E ha'=>a7 (A.ro.get (G3 Za)) λc I P=>?_
  have P:=k1 _ _ P;have qa:(cs.map V.ref)[i]?=some (.ref a):=by rw[aB,E];rfl
  have qb:(rws.map V.ref)[i]?=some (.ref c):=by rw[aB,I];rfl
  have lr:(rwV (yF rh tb rk U T) rh.length i).length=rh.length:=Y5;k_extra"bL"
  k_extra"w";refine x3 p (ChJ (λ_ o2=>[some (.ref x),some (.ref b),some (.ref w),some (.int i),o2]) (λj=>chg (yF rh tb rk U T) f rh.length i++C7 (yF rh tb rk U T) f i j) w u) (λ_ k_=>k_ o1 o2 (by show _=upd u w (.L (chg (yF rh tb rk U T) f rh.length i++[]));rw[bI]) rfl) (λcx p hB j hj hJ2=>?_) ?_
  ·k_extra"3"
   have e0:(0:Int)+(j:Int)=j:=bJ _;rw[e0];have hj:j<rh.length:=by exact nA lr hj
   k_extra"bL"
   k_extra"bo"
   k_extra"w";refine A1.rows (ItR.l (LookR.mk _ A1.hr (i8 i _ rfl qb (by exact O7 zz lb (by assumption)) ?_)))
   k_extra"bo"
   have hlen:(chg (yF rh tb rk U T) f rh.length i++C7 (yF rh tb rk U T) f i j).length<=10000:=by
    rw[aK];have h2:=rn (f:=yF rh tb rk U T) (g:=f) (y:=i) (m:=j);have:i*rh.length<=8*40:=kY (by exact xR zz lb (by assumption)) l40
    exact yE l40 lr (by assumption) (tW (f:=yF rh tb rk U T) (g:=f) (m:=rh.length) (n:=i)) h2 this
   k_extra"w"
   ·rename_i q
    k_extra"bZ"
   ·rename_i q
    k_extra"b0"
  ·k_extra"3"
   have I:(((rwV (yF rh tb rk U T) rh.length i).length:Int)-0).toNat=rh.length:=by rw[lr];exact D4 _
   rw[I];exact hJ (λ_ k_=>k_ _ _ (by rw[uL]) rfl)
 ·k_extra"3"
  have I:(((cs.map V.ref).length:Int)-0).toNat=T.length:=by rw[lb];exact D4 _
  rw[I,bK6];have M:=A1 (L:=chg f (yF rh tb rk U T) rh.length T.length);have s2:Sub Z (upd u w (.L (chg f (yF rh tb rk U T) rh.length T.length))):=k1.trans (Sub.upd H);have f2:=d6 u w (.L (chg f (yF rh tb rk U T) rh.length T.length));have b2:=i4 (o:=.L (chg f (yF rh tb rk U T) rh.length T.length)) k3 H;have p2:=K.sub (Sub.upd (o:=.L (chg f (yF rh tb rk U T) rh.length T.length)) H);have n2:=k2.upd (a:=w) (rG (f:=f) (g:=yF rh tb rk U T) (m:=rh.length) (n:=T.length));have q2:w∉cs:=λq=>by refine a7 (K.has q) λz _ S=>?_;rw[H] at S;cases S
  have fb:w≠b:=(j7 k3 H).symm;generalize upd u w (.L (chg f (yF rh tb rk U T) rh.length T.length))=τ at M s2 f2 b2 p2 n2 ⊢;k_extra"w";refine ASet.mk d _ M.hx M.hd (show 4<=100 by decide) ?_
  rw[bX1];k_extra"w";have O:∀ {a l},τ a=some (.L l)->upd τ d (.na (T2 (fmV rh tb C ow) pa ma b)) a=some (.L l):=λe=>p8 e (r6 e M.hd (show(0:Nat)≠5 by decide))
  have nb:∀ {a:Addr},Z a=none->a∉mks:=fun{a} e q=>by
   refine a7 (A.mb.has q) λz _ S=>?_
   rw[e] at S;cases S
  refine p.h (h _ w b cs (λc o q e=>?_) (n2.upd ?_) ⟨p8 M.hx (r6 M.hx M.hd (show(4:Nat)≠5 by decide)),d6 _ _ _,O M.hp,O M.hm,O b2,⟨A.pd.len,λE I=>p8 (M.pd.at' E I) (r6 (M.pd.at' E I) M.hd (show(2:Nat)≠5 by decide))⟩,⟨A.mb.len,λE I=>O (M.mb.at' E I)⟩,⟨K.len,λE I=>O (p2.at' E I)⟩,A.np,A.nm,A.a1,A.a2,nb k6,λc hc=>nb (k5 c hc)⟩ (O f2) (λc hc=>?_) fb q2)
  ·k_extra"bs";exact s2 _ _ e
  ·show nzL [.ref b,.ref ma,.ref pa,fmV rh tb C ow]=true
   refine v4 λv hv=>?_
   rcases au.mp hv with q | hv
   ·rw[q];rfl
   rcases au.mp hv with q | hv
   ·rw[q];rfl
   rcases au.mp hv with q | hv
   ·rw[q];rfl
   rw[aA.mp hv];exact F.nz
  ·k_extra"bC"
   ·rw[q];exact(j4 k1 H)
   k_extra"bC"
   ·rw[q];exact k6
   exact k5 c hc
end
theorem R4{n:Nat}(h:f9 v 0 ((n:Int)-1)=true):∃ y:Nat,v=.int y/\y<n:=by
 refine f6 (t8 h) λi Ja M Za=>?_;subst Ja
 refine d4 (bM M) λy Ja=>?_;subst Ja
 exact⟨y,rfl,by exact aQ.mp (eO Za)⟩
theorem CV{t:List Bool}:(t.map V.bool).set j (.bool b)=(t.set j b).map .bool:=map_set V.bool t j b
def Aft(Z:Hp)(rh tb:List V)(C ow:Int)(rk:Int->Nat)(x d pa ma:Addr)(pds mks:List Addr)(f:Nat->Nat->Int)(c:Addr)(U:List (List (Str×Int)))(T:List (List Bool))(q:Addr)(Z':Hp):Prop:=
 ∀ u:Prop,(∀ (L:Addr) (cs:List Addr) (E:e9 [d,c] Z Z') (y:NZ Z') (A:FlAt Z' (fmV rh tb C ow) x d pa ma L pds mks cs U T (k8 (yF rh tb rk U T) rh.length T.length)) (w:Z' q=some (.L (chg f (yF rh tb rk U T) rh.length T.length)))
  (nw:∀ c∈q::L::cs,Z c=none) (Za:q≠L) (S:q∉cs),u)->u
section
variable{g:G}{Q:V->Hp->Prop}{C:Int}{rk:Int->Nat}{x d:Addr}{R:List (List V)}{fm:V}{f:Nat->Nat->Int}
theorem Ez(N:Nm g)(hD:16<=D)(F:FG rh tb C ow rk)(A:FlAt (upd Z c o) (fmV rh tb C ow) x d pa ma ra pds mks rws y u (k8 f rh.length u.length))(Y:Yrs C y u)(nz:NZ (upd Z c o))
  (h:∀ w Z',Aft Z rh tb C ow rk x d pa ma pds mks f c y u w Z'->Q (.ref w) Z'):d8 g D true "File.renew" [.ref x] (upd Z c o) Q X:=
 Wv N hD F A Y nz λZ' w L cs H I Ja K E O P=>h w Z' λz_ S=>S L cs (λa Za q e=>H a Za (j9 λz=>q (by rw[z];exact .head _)) (by rw[e8 _ _ (λz=>q (by rw[z];exact .tail _ (.head _)))];exact e)) I Ja K (λa M=>(j3 (E a M)).2) O P
set_option tactic.hygienic true in
theorem vh(N:Nm g)(hD:17<=D)(F:FG rh tb C ow rk)(A:FlAt Z (fmV rh tb C ow) x d pa ma ra pds mks rws U T (k8 f rh.length T.length))(nz:NZ Z)(O:U.length=T.length)(zz:T.length<=8){w k:V}(okv:Ok Z v)(H:Cld Z w)(E:Ok Z k)
  (hy:f9 v 0 ((T.length:Int)-1)=false->X "NoYear" Z) (M:f9 v 0 ((T.length:Int)-1)=true->(x4 w&&f9 k (0-1000000000) 1000000000)=false->X "NoPaper" Z)
  (S:f9 v 0 ((T.length:Int)-1)=true->(x4 w&&f9 k (0-1000000000) 1000000000)=true->∀ (y:Nat) s i u c,v=.int y->w=.str s->k=.int i->m8 s=true->-1000000000<=i->i<=1000000000->U[y]?=some u->pds[y]?=some c->u.length<=1000/\Yrs C (U.set y (B5 u s i)) T/\∀ I Z',Aft Z rh tb C ow rk x d pa ma pds mks f c (U.set y (B5 u s i)) T I Z'->Q (.ref I) Z') :
  d8 g D true "File.put" [.ref x,v,w,k] Z Q X:=by
 refine bd N by3 (by k_extra"b") hD λcx p=>?_
 k_extra"V"
 k_extra"v"
 rw[lr] at q;k_extra"w";refine uJ p.N (p.dd (by decide)) H ?_
 k_extra"w"
 ·rename_i K
  refine U2 p.N (p.dd (by decide)) E ?_
  k_extra"w"
  ·rename_i Ja
   k_extra"a2";clear okv;clear hy;clear H;clear E;subst qa
   refine a7 (tV K) λs qa Y=>?_;subst qa
   refine f6 (t8 Ja) λi qa Za i1=>?_;subst qa
   have L:=ak (O▸hy');refine a7 (A.pd.get L) λc hc P=>?_
   obtain⟨z1,z2,z3⟩:=S q (by rw[K,Ja];rfl) y s i _ c rfl rfl rfl Y (Za) i1 L hc
   have hl:(dS (U[y]'(O▸hy'))).length<=10000:=by unfold dS;rw[aq];exact xK z1
   k_extra"aK"
   k_extra"w";rw[Pn];refine(A.put L hc _).m (by k_extra"#") (Ez p.N (p.dd (by decide)) F (A.put L hc _) z2 (nz.upd Sw) λI Z' z=>?_)
   exact p.h (z3 I Z' z)
  ·rename_i Ja
   exact p.x (M q (by rw[K,Ja];rfl))
 ·rename_i K
  exact p.x (M q (by rw[K];rfl))
set_option tactic.hygienic true in
theorem rN(N:Nm g)(hD:17<=D)(F:FG rh tb C ow rk)(A:FlAt Z (fmV rh tb C ow) x d pa ma ra pds mks rws U T (k8 f rh.length T.length))(nz:NZ Z)(Y:Yrs C U T){k:V}{b:Bool}(okv:Ok Z v)(okk:Ok Z k)
  (hy:f9 v 0 ((T.length:Int)-1)=false->X "NoYear" Z) (M:f9 v 0 ((T.length:Int)-1)=true->f9 k 0 (C-1)=false->X "NoChoice" Z)
  (Ja:f9 v 0 ((T.length:Int)-1)=true->f9 k 0 (C-1)=true->∀ (y j:Nat) t c,v=.int y->k=.int j->T[y]?=some t->mks[y]?=some c->∀ u Z',Aft Z rh tb C ow rk x d pa ma pds mks f c U (T.set y (t.set j b)) u Z'->Q (.ref u) Z') :
  d8 g D true "File.take" [.ref x,v,k,.bool b] Z Q X:=by
 refine bd N bN7 (by k_extra"b") hD λcx p=>?_
 k_extra"V"
 have zz:=Y.zz;have c8:=F.c8;k_extra"1"
 k_extra"aY"
 k_extra"w"
 ·rename_i K
  k_extra"cV"
  refine f6 (t8 K) λj qa H L=>?_;subst qa
  refine d4 (bM H) λj qa=>?_;clear H;subst qa
  have ht:=ak hy';have P:=Y.tz _ (cT hy');refine a7 (A.mb.get (j:=y) (x:=(T[y]'hy').map .bool) (by rw[aB,ht];rfl)) λc O I=>?_
  have hl:((T[y]'hy').map V.bool).length=(T[y]'hy').length:=aq _;refine A.marks (ItR.l (LookR.mk _ A.hm (i8 y (.ref c) rfl (by rw[aB,O];rfl) (M9 zz hy') ?_)))
  k_extra"w";rw[dg,CV];have w:=A.take ht O ((T[y]'hy').set j b);have el:(T.set y ((T[y]'hy').set j b)).length=T.length:=bZ;refine w.m (by k_extra"#") ?_
  refine Ez p.N (p.dd (by decide)) F (el▸w) ⟨by rw[el];exact Y.lu,Y.gp,Y.uz,λS E=>?_,by rw[el];exact zz⟩ (nz.upd Q5) λu Z' z=>p.h (Ja q K y j _ c rfl rfl ht O u Z' z)
  rcases dq E with z | z
  ·exact Y.tz _ z
  ·rw[z,bZ];exact P
 ·rename_i K
  exact p.x (M q K)
set_option tactic.hygienic true in
theorem Bx(N:Nm g)(hD:3<=D)(A:FlAt Z fm x d pa ma ra pds mks rws U T (k8 f rh.length T.length))(zz:T.length<=8)(E:rh.length<=40){v:V}(okv:Ok Z v)(hy:f9 v 0 ((T.length:Int)-1)=false->X "NoYear" Z)
  (w:f9 v 0 ((T.length:Int)-1)=true->∀ (y:Nat) b,v=.int y->y<T.length->Z b=none->Q (.ref b) (upd Z b (.L (rwV f rh.length y)))):d8 g D true "File.values" [.ref x,v] Z Q X:=by
 refine bd N Nk (by k_extra"b") hD λcx p=>?_
 k_extra"V"
 k_extra"v"
 rw[lr] at q;k_extra"a2";subst qa
 refine a7 (A.ro.get (G3 hy')) λc O u=>?_
 have hl:(rwV f rh.length y).length=rh.length:=Y5;refine A.rows (ItR.l (LookR.mk _ A.hr (i8 y (.ref c) rfl (by rw[aB,O];rfl) (M9 zz hy') ?_)))
 k_extra"bR";exact p.h (w q y b rfl hy' Y)
set_option tactic.hygienic true in
theorem qJ(N:Nm g)(hD:3<=D)(A:FlAt Z (fmV rh tb C ow) x d pa ma ra pds mks rws U T (k8 f rh.length T.length))(zz:T.length<=8)(w:rh.length<=40){k:V}(okv:Ok Z v)(okk:Ok Z k)(hy:f9 v 0 ((T.length:Int)-1)=false->X "NoYear" Z)(hl:f9 v 0 ((T.length:Int)-1)=true->f9 k 0 ((rh.length:Int)-1)=false->X "NoLine" Z)
  (F:f9 v 0 ((T.length:Int)-1)=true->f9 k 0 ((rh.length:Int)-1)=true->∀ (y l:Nat),v=.int y->k=.int l->Q (.int (f y l)) Z):d8 g D true "File.value" [.ref x,v,k] Z Q X:=by
 refine bd N GQ (by k_extra"b") hD λcx p=>?_
 k_extra"V"
 k_extra"v"
 k_extra"aY"
 k_extra"w"
 ·rename_i K
  k_extra"cV"
  refine a7 (R4 K) λl qa u=>?_;subst qa
  refine a7 (A.ro.get (G3 hy')) λc O E=>A.rows (ItR.l (LookR.mk _ A.hr (i8 y (.ref c) rfl (by rw[aB,O];rfl) (M9 zz hy') ?_)))
  k_extra"w";exact i8 l _ rfl (I0 u) (aj (bN u) (aj w (by decide))) (p.h (F q K y l rfl rfl))
 ·rename_i K
  exact p.x (hl q K)
end
theorem E8:(dS u).map (·.1)=u.map (·.1):=by unfold dS;rw[cR];rfl
section
variable{g:G}{Q:V->Hp->Prop}{C:Int}{rk:Int->Nat}{x d:Addr}{R:List (List V)}{fm:V}{f:Nat->Nat->Int}
theorem Ge(N:Nm g)(hD:1<=D)(F:FG rh tb C ow rk){n:Nat}(A:FlAt Z (fmV rh tb C ow) x d pa ma ra pds mks rws U T (k8 f rh.length n))(S:n<=8)(h:Q (.int ((bh n).map λy=>f y ow.toNat).sum) Z):d8 g D true "File.owed" [.ref x] Z Q X:=by
 refine bd N Mh (by k_extra"b") hD λcx p=>?_
 have w:rws.length=n:=by rw[A.ro.len,G5]
 have I:=F.l40;have L:=F.o0;have Za:=F.o1;k_extra"w";refine A.rows (Look.mk _ A.hr (CLoop.g p (λE H u=>Z=u/\∃ d1 d2,rws=d1++d2/\E=d2.map .ref/\H=((bh d1.length).map λy=>f y ow.toNat).map .int) (by rw[aq];exact wk S w) ⟨rfl,[],rws,rfl,rfl,rfl⟩ (λcx p v E H Ja O=>?_) ?_))
 ·clear O;rintro _ hh;k_extra"8"
  refine⟨A.hr,?_⟩;cases d2 with
  | nil=>cases e2
  | cons c d2=>
   k_extra"ab";rw[qb] at Ja e2
   have hc:rws[d1.length]?=some c:=by rw[e1,cH (aV _),gG];rfl
   have q:=(aF.mp hc).1;have P:=A.ro.at' hc (G3 (w▸q));k_extra"w";refine A.form ?_;k_extra"w";exact i8 ow.toNat _ (bQ L).symm (I0 (U8 L Za)) (BX I Za) (Ja ⟨rfl,d1++[c],d2,by rw[e1,bH];rfl,rfl,by rw[aK,gf,dY,aN,aN];rfl⟩)
 ·rintro H _ hh;k_extra"8"
  refine⟨A.hr,λa M=>?_⟩
  k_extra"F"
  rw[bI] at e1;k_extra"w";refine SumL.mk _ (d6 _ _ _) ?_;rw[<- e1,w];exact p.r (Sub.upd M) h
set_option tactic.hygienic true in
theorem Gb(N:Nm g)(hD:3<=D)(A:FlAt Z fm x d pa ma ra pds mks rws U T (k8 f rh.length T.length))(Y:Yrs C U T)(O:C<=8)(u4:∀ u∈U,u.length<=4)(okv:Ok Z v)(hy:f9 v 0 ((T.length:Int)-1)=false->X "NoYear" Z)
  (M:f9 v 0 ((T.length:Int)-1)=true->∀ (y:Nat) u t (ps:List (Str×Int)) w H,v=.int y->U[y]?=some u->T[y]?=some t->Z w=none->upd Z w (.L (ps.map tS)) H=none->ps.Perm u->ps.Pairwise ltP->Q (.tup [.ref w,.ref H]) (upd (upd Z w (.L (ps.map tS))) H (.L (t.map .bool)))):d8 g D true "File.told" [.ref x,v] Z Q X:=by
 refine bd N aX5 (by k_extra"b") hD λcx p=>?_
 k_extra"V"
 have zz:=Y.zz;k_extra"1"
 rw[lr] at q;k_extra"a2";subst qa
 have hu:=ak (Y.lu▸hy');have ht:=ak hy';have mu:=aL hu;have P:=Y.tz _ (aL ht);refine a7 (A.pd.get hu) λc hc I=>a7 (A.mb.get (j:=y) (x:=(T[y]'hy').map .bool) (by rw[aB,ht];rfl)) λe Ja L=>?_
 k_extra"aK"
 refine SrtI.mk _ I (Srtp.mk (E8▸(Y.gp _ mu).nd) (u4 _ mu) λw ps F E Za=>?_)
 have hl:((T[y]'hy').map V.bool).length<=10000:=by rw[aq];lia
 refine(A.sub (Sub.upd F)).marks (ItR.l (LookR.mk _ (A.sub (Sub.upd F)).hm (i8 y (.ref e) rfl (by rw[aB,Ja];rfl) (M9 zz hy') ?_)))
 k_extra"w";rename_i H mZ;exact p.h (M q y _ _ ps w H rfl hu ht F mZ E Za)
end
def DcJ(τ:Hp)(i:Nat)(acc:List V)(Z':Hp):Prop:=
 ∀ q:Prop,(∀ (c:List Addr) (u:acc=c.map .ref) (A:Sub τ Z') (w:NZ Z') (y:DsAt Z' c (aC i [])) (nd:c.Nodup) (nw:∀ b∈c,τ b=none),q)->q
def MkJ(τ:Hp)(x:List V)(i:Nat)(acc:List V)(Z':Hp):Prop:=
 ∀ q:Prop,(∀ (c:List Addr) (u:acc=c.map .ref) (A:Sub τ Z') (w:NZ Z') (y:PAt Z' c (aC i x)) (nd:c.Nodup) (nw:∀ b∈c,τ b=none),q)->q
theorem Dn(h:bs.Nodup)(Y:b∉bs):(bs++[b]).Nodup:=cA.mpr ⟨h,by simp,λx c y I q=>by rw[aA.mp I] at q;exact Y (q▸c)⟩
theorem DY{b:Addr}{P:Addr->Prop}(h:∀ x∈bs,P x)(Y:P b):∀ x∈bs++[b],P x:=λx hx=>by
 k_extra"aI"
 ·exact h x q
 ·rw[aA.mp q];exact Y
theorem PAt.no(h:PAt Z cs c)(Y:Z b=none):b∉cs:=λq=>by refine a7 (h.has q) λz N e=>?_;rw[Y] at e;cases e
theorem DsAt.no(h:DsAt Z cs U)(Y:Z b=none):b∉cs:=λq=>by
 obtain⟨j,P,rfl⟩:=fu q;have z:=h.at' (ak P) (ak (h.len▸P));rw[Y] at z;cases z
theorem DsAt.snoc{Z:Hp}{cs:List Addr}{U:List (List (Str×Int))}{c:Addr}{x:List (Str×Int)}(h:DsAt Z cs U)(e:Z c=some (.ds (dS x))):DsAt Z (cs++[c]) (U++[x]):=
 ⟨by rw[aK,aK,h.len];rfl,λe1 e2=>by
  rcases O1 e1 with ⟨q1,e1⟩ | ⟨q1,rfl⟩
  ·k_extra"as"
   ·exact h.at' e1 e2
   ·have:=h.len;exact Fp q1 q2 this
  ·clear e1;k_extra"as"
   ·have:=h.len;exact DG q1 q2 this
   ·exact e⟩
theorem KJ{n:Nat}:(aC n [V.bool false]).flatten=(aC n false).map .bool:=by
 induction n with
 | zero=>rfl
 | succ n ih=>rw[gA,gP,ih];rfl
section
variable{g:G}{n:Nat}{QQ:VP}{K:KT}{s:List V}{J:Lo}
set_option tactic.hygienic true in
theorem Tf{m:Nat}(p:Pk pq tab g n QQ XX cx)(I:m<=8)(nz:NZ τ)(h:∀ Z' b bs,Sub τ Z'->NZ Z'->DsAt Z' bs (aC m [])->bs.Nodup->(∀ c∈b::bs,τ c=none)->Z' b=some (.L (bs.map .ref))->K cx (.ref b::s) J Z'):CLoop ((IC.e (.dic0 true)).w true) K [] (m7 0 1 ((m:Int)-0).toNat) (λ_=>True) cx s J τ:=by
 refine U9 p (DcJ τ) (wu I) (λ_ E=>E [] rfl (Sub.refl _) nz ⟨rfl,λe=>by cases e⟩ .nil (λb Y=>by cases Y)) (λcx p i F L H Ja=>?_) ?_
 ·rintro Z' u;refine u _ ?_;clear u;rintro bs rfl w A y nd nw
  k_extra"bR";refine H (λ_ E=>E (bs++[b]) (by rw[aN];rfl) (w.trans (Sub.upd Y)) (A.upd rfl) ?_ (Dn nd (y.no Y)) (DY nw (j4 w Y)))
  rw[lC];exact(y.sub (Sub.upd Y)).snoc (d6 _ _ _)
 ·rintro F Z' u;refine u _ ?_;clear u;rintro bs rfl w A y nd nw b Y
  rw[D4] at y;refine h _ b bs (w.trans (Sub.upd Y)) (A.upd D3) (y.sub (Sub.upd Y)) nd (λc hc=>?_) (d6 _ _ _)
  rcases au.mp hc with q | q
  ·rw[q];exact j4 w Y
  ·exact nw c q
end
theorem pN{n:Str}(h:(c.map (·.1)).contains n=false):B4 c n v=(n,v)::c:=by
 unfold B4;rw[iV.mpr λp M=>bne_iff_ne.mpr λe=>by rw[iz.mpr (e▸dM M)] at h;cases h]
section
variable{g:G}{n:Nat}{QQ:VP}{K:KT}{s:List V}{J:Lo}
theorem tD{B:KT}{O:List Nat}{x:List V}(p:Pk pq tab g n QQ XX cx)(R:m<=8)(nz:NZ τ)(U:nzO (.L x)=true)
  (I:∀ T,Pb pq tab n T->∀ v Z',(∀ u b w,Sub Z' u->(NZ Z'->NZ u)->u b=none->T.Q (.ret (.ref b)) w (upd u b (.L x)))->B T [] (some v::s6 J O) Z')
  (h:∀ Z' b bs,Sub τ Z'->NZ Z'->PAt Z' bs (aC m x)->bs.Nodup->(∀ c∈b::bs,τ c=none)->b∉bs->Z' b=some (.L (bs.map .ref))->K cx (.ref b::s) J Z'):CLoop B K O (m7 0 1 ((m:Int)-0).toNat) (λz_=>True) cx s J τ:=by
 refine U9 p (MkJ τ x) (wu R) (λz_ M=>M [] rfl (Sub.refl _) nz PAt.nil .nil (λb Y=>by cases Y)) (λcx p i F Za P S=>?_) ?_
 ·rintro Z' E;refine E _ ?_;clear E;rintro bs rfl H L y nd nw
  refine I cx p _ Z' λu b w Ja A Y=>P (λz_ M=>M (bs++[b]) (by rw[aN];rfl) ((H.trans Ja).trans (Sub.upd Y)) ((A L).upd U) ?_ (Dn nd ((y.sub Ja).no Y)) (DY nw (j4 (H.trans Ja) Y)))
  rw[lC];exact((y.sub Ja).sub (Sub.upd Y)).snoc (d6 _ _ _)
 ·rintro F Z' E;refine E _ ?_;clear E;rintro bs rfl H L y nd nw b Y
  rw[D4] at y;refine h _ b bs (H.trans (Sub.upd Y)) (L.upd D3) (y.sub (Sub.upd Y)) nd (λc hc=>?_) (y.no Y) (d6 _ _ _)
  rcases au.mp hc with q | q
  ·rw[q];exact j4 H Y
  ·exact nw c q
end
theorem qI{C:Int}{n:Nat}(w:0<=C)(y:n<=8):Yrs C (aC n []) (aC n (aC C.toNat false)) where
 lu:=by rw[bK,bK]
 gp u hu:=by rw[(dU.mp hu).2];exact⟨.nil,λq c=>(by cases c),λq c=>(by cases c),λq c=>(by cases c)⟩
 uz u hu:=by rw[(dU.mp hu).2];exact aY _
 tz t ht:=by rw[(dU.mp ht).2,bK];exact bQ w
 zz:=by rw[bK];exact y
theorem G2{d:Addr}(h:e9 [d] Z Z')(u:Z' d=some o)(e:Z' c=none):Z c=none:=by
 cases q:Z c with
 | none=>rfl
 | some U=>
  by_cases z:c=d
  ·rw[z,u] at e;cases e
  ·rw[h c U (j9 z) q] at e;cases e
theorem M5{d:Addr}(u:Z d=some (.na q))(e:Z a=some (.L l)):upd Z d (.na c) a=some (.L l):=p8 e (r6 e u (show(0:Nat)≠5 by decide))
theorem PAt.d{d:Addr}(y:Z d=some (.na w))(h:PAt Z cs q):PAt (upd Z d (.na c)) cs q:=⟨h.len,λE u=>M5 y (h.at' E u)⟩
theorem DsAt.d{d:Addr}(w:Z d=some (.na u))(h:DsAt Z cs U):DsAt (upd Z d (.na c)) cs U:=⟨h.len,λE q=>p8 (h.at' E q) (r6 (h.at' E q) w (show(2:Nat)≠5 by decide))⟩
theorem Z0{d:Addr}{x:Str}(u:Z d=some (.na q))(h:Z a=some (.ob x e)):upd Z d (.na c) a=some (.ob x e):=p8 h (r6 h u (show(4:Nat)≠5 by decide))
theorem vo{d:Addr}(u:Z d=some (.na q))(h:upd Z d (.na c) a=none):Z a=none:=(j3 h).2
section
variable{g:G}{Q:V->Hp->Prop}{C:Int}{rk:Int->Nat}{x d:Addr}
set_option tactic.hygienic true in
theorem PL(N:Nm g)(hD:16<=D)(F:FG rh tb C ow rk){n:Nat}(h1:1<=n)(h8:n<=8)(hx:Z x=some (.ob "File" d))(hd:Z d=some (.na []))(nz:NZ Z)
  (h:∀ Z' H L O E y I,FlAt Z' (fmV rh tb C ow) x d H L O E y I (aC n []) (aC n (aC C.toNat false)) (k8 (yF rh tb rk (aC n []) (aC n (aC C.toNat false))) rh.length n)->e9 [d] Z Z'->NZ Z'->(∀ c∈H::L::O::(E++(y++I)),Z c=none)->Q .none Z') :
  d8 g D true "File.__init__" [.ref x,fmV rh tb C ow,.int n] Z Q X:=by
 refine bdn N Hw (by k_extra"b") hD λcx p pn=>?_
 have c0:=F.c0;have c8:=F.c8;have hf:∀ l:List (Str×V),(∀ q∈l,Internal.nz q.2=true)->nzO (.na l)=true:=λl hl=>v4 λv hv=>by
  refine a7 (aM.mp hv) λq hq qa=>?_;subst qa;exact hl q hq
 k_extra"w";refine F7 p.N (p.dd (by decide)) (by intro _ e;cases e) ?_
 rw[r8 (by exact bj.mpr h1) (by exact bj.mpr h8)]
 k_extra"w";refine ASet.mk d _ hx hd (by decide) ?_
 rw[pN rfl];have nz0:=nz.upd (a:=d) (hf [("form",fmV rh tb C ow)] λq hq=>by rw[aA.mp hq];exact F.nz)
 k_extra"w";refine Tf p h8 nz0 λP H E s1 n1 p1 d1 w1 M=>?_
 have w1:∀ c∈H::E,Z c=none:=λc hc=>vo hd (w1 c hc)
 have u:=s1 _ _ (d6 _ _ _);have Y:=s1 _ _ (Z0 hd hx);have t1:e9 [d] Z P:=λc o q e=>s1 _ _ (by rw[e8 _ _ (λz=>q (by rw[z];exact .head _))];exact e)
 clear s1;k_extra"w";refine ASet.mk d _ Y u (show 1<=100 by decide) ?_
 rw[pN (show[aa "form"].contains (aa "papers")=false by k_extra"#")]
 have nz1:=n1.upd (a:=d) (hf [("papers",.ref H),("form",fmV rh tb C ow)] λq hq=>by
  rcases au.mp hq with z | z
  ·rw[z];rfl
  ·rw[aA.mp z];exact F.nz)
 k_extra"w";refine tD (x:=(aC C.toNat false).map .bool) p h8 nz1 Q5 (λcx p v Z' k=>?_) λS L y s2 n2 p2 d2 w2 mm hma=>?_
 ·k_extra"w"
  k_extra"bz"
 have w2:∀ c∈L::y,P c=none:=λc hc=>vo u (w2 c hc)
 have w:=s2 _ _ (d6 _ _ _);have Za:=s2 _ _ (Z0 u Y);have U:=s2 _ _ (M5 u M);have p12:=(p1.d u).sub s2;have t2:e9 [d] P S:=λc o q e=>s2 _ _ (by rw[e8 _ _ (λz=>q (by rw[z];exact .head _))];exact e)
 clear s2;k_extra"w";refine ASet.mk d _ Za w (show 2<=100 by decide) ?_
 rw[pN (show[aa "papers",aa "form"].contains (aa "marks")=false by k_extra"#")]
 have nz2:=n2.upd (a:=d) (hf [("marks",.ref L),("papers",.ref H),("form",fmV rh tb C ow)] λq hq=>by
  rcases au.mp hq with z | z
  ·rw[z];rfl
  k_extra"Y"
  ·rw[z];rfl
  ·rw[aA.mp z];exact F.nz)
 have A:RkAt (upd S d (.na [("marks",.ref L),("papers",.ref H),("form",fmV rh tb C ow)])) (fmV rh tb C ow) x d H L [("marks",.ref L),("papers",.ref H),("form",fmV rh tb C ow)] E y (aC n []) (aC n (aC C.toNat false)):=
  ⟨Z0 w Za,d6 _ _ _,.tail _ (.head _),.tail _ (.tail _ (.head _)),.head _,M5 w U,M5 w hma,p12.d w,by rw[fM];exact p2.d w⟩
 have Ja:=qI (n:=n) c0 h8;k_extra"w";refine OAt.mk d _ A.hx A.hd (show[aa "marks",aa "papers",aa "form"].contains (aa "reckon")=false by k_extra"#") (wD p.N (p.dd (by decide)) F A Ja.lu Ja.gp Ja.uz Ja.tz (aj Ja.zz (by decide)) nz2 λZ3 O I s3 n3 hra p3 T wr=>?_)
 rw[bK,pL (by rw[bK];exact aV _) (by rw[bK];exact aV _)] at p3
 have T:∀ c∈O::I,S c=none:=λc hc=>vo w (by
  rcases au.mp hc with q | q
  ·exact q▸wr
  ·exact T c q)
 k_extra"w";refine ASet.mk d _ (s3 _ _ A.hx) (s3 _ _ A.hd) (show 3<=100 by decide) ?_
 rw[pN (show[aa "marks",aa "papers",aa "form"].contains (aa "rows")=false by k_extra"#")]
 have R:=s3 _ _ A.hd;refine pn (Sub.refl _) (h _ H L O E y I ⟨Z0 R (s3 _ _ A.hx),d6 _ _ _,M5 R (s3 _ _ A.hp),M5 R (s3 _ _ A.hm),M5 R hra,(A.pd.sub s3).d R,(A.mb.sub s3).d R,p3.d R,d1,d2,λq=>?_,mm,p2.no (T O (.head _)),λc hc=>p2.no (T c (.tail _ hc))⟩ (λc o q e=>?_) (n3.upd (hf _ λq hq=>?_)) λc hc=>?_)
 ·rw[w2 H (.tail _ q)] at M;cases M
 ·k_extra"bs"
  exact s3 _ _ (by rw[e8 _ _ (λz=>q (by rw[z];exact .head _))];exact t2 _ _ q (t1 _ _ q e))
 ·rcases au.mp hq with z | z
  ·rw[z];rfl
  k_extra"Y"
  ·rw[z];rfl
  k_extra"Y"
  ·rw[z];rfl
  ·rw[aA.mp z];exact F.nz
 ·k_extra"bC"
  ·rw[q];exact w1 H (.head _)
  k_extra"bC"
  ·rw[q];exact G2 t1 u (w2 L (.head _))
  k_extra"bC"
  ·rw[q];exact G2 t1 u (G2 t2 w (T O (.head _)))
  rcases aH.mp hc with q | hc
  ·exact w1 c (.tail _ q)
  k_extra"cz"
  ·exact G2 t1 u (w2 c (.tail _ q))
  ·exact G2 t1 u (G2 t2 w (T c (.tail _ q)))
end
noncomputable def F4:List Str:=[aa "NoYear",aa "NoPaper",aa "NoChoice",aa "NoLine"]
theorem mZ{x:Str}{ys P:List Str}(c:x∈F4)(h:∀ x∈F4,ys.contains x=false->P.contains x=true):ys.contains x=false->P.contains x=true:=h x c
theorem KN:∀ x∈F4,b2i (([]:List Str).contains x)+b2i (([]:List Str).contains x)+b2i (([]:List Str).contains x)+b2i (([]:List Str).contains x)+b2i ([aa "NoPaper"].contains x)+b2i ([aa "NoYear"].contains x)+b2i ([aa "NoLine"].contains x)+b2i ([aa "NoChoice"].contains x)+b2i (([]:List Str).contains x)=1:=by k_extra"#"
class inductive Atm:V->Prop
 | none:Atm .none
 | bool (b:Bool):Atm (.bool b)
 | int (i:Int):Atm (.int i)
 | str {x:Str} (h:x.length<=10000):Atm (.str x)
theorem Atm.cld(h:Atm v)(Z:Hp):Cld Z v:=by
 cases h with
 | none=>exact .none
 | bool b=>exact .bool b
 | int i=>exact .int i
 | str h=>exact .str h
theorem Atm.nz(h:Atm v):Internal.nz v=true:=by cases h<;>rfl
structure Bd(v:V)(n:Int):Prop where
 no:f9 v 0 (n-1)=false
 cl:Atm v
inductive BadD(n m:Nat)(C:Int):V->Str->Str->Prop
 | putY {y w k:V} (hy:Bd y n) (cw:Atm w) (ck:Atm k):BadD n m C (.tup [.str "put",y,w,k]) "year" "NoYear"
 | putP {y w k:V} (hy:f9 y 0 ((n:Int)-1)=true) (cy:Atm y) (hp:(x4 w&&f9 k (0-1000000000) 1000000000)=false) (cw:Atm w) (ck:Atm k):BadD n m C (.tup [.str "put",y,w,k]) "paper" "NoPaper"
 | takeY {y k:V} {b:Bool} (hy:Bd y n) (ck:Atm k):BadD n m C (.tup [.str "take",y,k,.bool b]) "year" "NoYear"
 | takeC {y k:V} {b:Bool} (hy:f9 y 0 ((n:Int)-1)=true) (cy:Atm y) (hk:Bd k C):BadD n m C (.tup [.str "take",y,k,.bool b]) "choice" "NoChoice"
 | valY {y k:V} (hy:Bd y n) (ck:Atm k):BadD n m C (.tup [.str "value",y,k]) "year" "NoYear"
 | valL {y k:V} (hy:f9 y 0 ((n:Int)-1)=true) (cy:Atm y) (hk:Bd k m):BadD n m C (.tup [.str "value",y,k]) "line" "NoLine"
 | valsY {y:V} (hy:Bd y n):BadD n m C (.tup [.str "values",y]) "year" "NoYear"
 | toldY {y:V} (hy:Bd y n):BadD n m C (.tup [.str "told",y]) "year" "NoYear"
theorem r7{P:Prop}(h:b=false)(k:b=true):P:=tf (h.symm.trans k)
section
variable{g:G}{Q:V->Hp->Prop}{C:Int}{rk:Int->Nat}{x d:Addr}{f:Nat->Nat->Int}
theorem cy3:True:=by
 k_with"s"=>refine LookX.mk _ (by with_reducible assumption) (HitB.mk _ (λe=>e) (mZ (by with_reducible assumption) (by k_extra"#")) ?_)
 trivial
set_option tactic.hygienic true in
theorem Qn(N:Nm g)(hD:1<=D)(M:Z a=some (.ex e))(c:e∈F4)(h:Q (.bool true) Z):d8 g D false "_law_alone" [.ref a] Z Q X:=by
 refine bd N Ir (by k_extra"b") hD λcx p=>?_
 k_extra"w"
 ·rename_i q
  exact p.b ((by k_extra"#":∀ x∈F4,F4.contains x=true) e c) h
 ·rename_i q
  exact absurd (KN e c) q
theorem vH(N:Nm g)(hD:18<=D)(F:FG rh tb C ow rk)(A:FlAt Z (fmV rh tb C ow) x d pa ma ra pds mks rws U T (k8 f rh.length T.length))(nz:NZ Z)(Y:Yrs C U T)(u4:∀ u∈U,u.length<=4)(B:BadD T.length rh.length C dd w e)(h:X e Z):d8 g D true "_law_told" [.ref x,dd] Z Q X:=by
 k_extra"bm"
 cases B with
 | putY I c y=>
  k_extra"w";exact A.m (by k_extra"#") (vh p.N (p.dd (by decide)) F A nz Y.lu Y.zz (I.cl.cld Z).ok (c.cld Z) (y.cld Z).ok (λj=>p.x h) (λq j=>r7 I.no q) λq=>r7 I.no q)
 | putP I E M c y=>
  k_extra"w";exact A.m (by k_extra"#") (vh p.N (p.dd (by decide)) F A nz Y.lu Y.zz (E.cld Z).ok (c.cld Z) (y.cld Z).ok (λq=>r7 q I) (λj j=>p.x h) λj q=>r7 M q)
 | takeY I y=>
  k_extra"w";exact A.m (by k_extra"#") (rN p.N (p.dd (by decide)) F A nz Y (I.cl.cld Z).ok (y.cld Z).ok (λj=>p.x h) (λq j=>r7 I.no q) λq=>r7 I.no q)
 | takeC I E K=>
  k_extra"w";exact A.m (by k_extra"#") (rN p.N (p.dd (by decide)) F A nz Y (E.cld Z).ok (K.cl.cld Z).ok (λq=>r7 q I) (λj j=>p.x h) λj q=>r7 K.no q)
 | valY I y=>
  k_extra"w";exact A.m (by k_extra"#") (qJ p.N (p.dd (by decide)) A Y.zz F.l40 (I.cl.cld Z).ok (y.cld Z).ok (λj=>p.x h) (λq j=>r7 I.no q) λq=>r7 I.no q)
 | valL I E K=>
  k_extra"w";exact A.m (by k_extra"#") (qJ p.N (p.dd (by decide)) A Y.zz F.l40 (E.cld Z).ok (K.cl.cld Z).ok (λq=>r7 q I) (λj j=>p.x h) λj q=>r7 K.no q)
 | valsY I=>
  k_extra"w";exact A.m (by k_extra"#") (Bx p.N (p.dd (by decide)) A Y.zz F.l40 (I.cl.cld Z).ok (λj=>p.x h) λq=>r7 I.no q)
 | toldY I=>
  k_extra"w";exact A.m (by k_extra"#") (Gb p.N (p.dd (by decide)) A Y F.c8 u4 (I.cl.cld Z).ok (λj=>p.x h) λq=>r7 I.no q)
end
def Bh:ISs:=(.c1 (.ret (.itm (.v 10) (.nx .a (.n 9)))))
def DX:ISs:=(.cons (.asg 10 (.bin .Add (.v 10) (.L (.c3 (.L (.c2 (.tup (.c3 (.z "value") .g .i)) (.z "line"))) (.L (.c2 (.tup (.c2 (.z "values") .f)) (.z "year"))) (.L (.c2 (.tup (.c2 (.z "told") .f)) (.z "year"))))))) (.stop Bh))
def yg:ISs:=(.cons (.asg 10 (.bin .Add (.v 10) (.L (.c2 (.L (.c2 (.tup (.c4 (.z "take") .g .j (.k (.bool true)))) (.z "choice"))) (.L (.c2 (.tup (.c3 (.z "value") .f .i)) (.z "year"))))))) (.stop DX))
def Ae:ISs:=(.cons (.asg 10 (.bin .Add (.v 10) (.L (.c2 (.L (.c2 (.tup (.c4 (.z "put") .g (.itk .e 0) .l)) (.z "paper"))) (.L (.c2 (.tup (.c4 (.z "take") .f .j (.k (.bool true)))) (.z "year"))))))) (.stop yg))
def zR:ISs:=(.cons (.asg 10 (.L (.c2 (.L (.c2 (.tup (.c4 (.z "put") .f (.itm .h (.nx .a (.n 2))) .l)) (.z "year"))) (.L (.c2 (.tup (.c4 (.z "put") .g (.itk .h 0) (.n 5))) (.z "paper")))))) (.stop Ae))
def Ou:ISs:=(.cons (.asg 4 (.pick (.c6 (.neg (.n 1)) .d (.bin .Add .d (.nx .a (.pw 6 1000000))) (.k .none) (.k (.bool true)) (.z "0")) (.nx .a (.n 6)))) (.cons (.asg 5 (.nx .a .d)) (.cons (.asg 6 (.L (.c2 (.pick (.c7 (.z "A") (.z "") (.z "abcdefghi") (.k .none) (.z "a1") (.z "a_") (.z "{")) (.nx .a (.n 7))) (.itk .e 0)))) (.cons (.asg 7 (.pick (.c6 (.itk .b 0) (.neg (.n 1)) (.k .none) (.bin .Add (.itk .b 0) (.n 9)) (.k (.bool true)) (.z "0")) (.nx .a (.n 6)))) (.cons (.asg 8 (.pick (.c5 (.itk .b 2) (.neg (.n 1)) (.k .none) (.k (.bool true)) (.bin .Add (.itk .b 2) (.pw 6 1000000))) (.nx .a (.n 5)))) (.cons (.asg 9 (.pick (.c4 (.bin .Add (.pw 9 1000000000) (.n 1)) (.k .none) (.k (.bool true)) (.z "1")) (.nx .a (.n 4)))) (.stop zR)))))))
theorem bH0:f7 tab pq "_law_wrong" 74 11 4 Ou=true:=by k_extra"#"
def bK9:ISs:=(.c4 (.asg 4 (.nx .a .d)) (.iff (.and (.cmp .Eq (.nx .a (.n 4)) (.n 0)) (.cmp .Gt (.itk .b 2) (.n 0))) (.c1 (.ret (.tup (.c4 (.z "take") .f (.nx .a (.itk .b 2)) (.cmp .Eq (.nx .a (.n 2)) (.n 1)))))) .nil) (.asg 5 (.pick (.c2 (.bin .Sub (.nx .a (.n 5)) (.n 2)) (.call "_law_number" (.c1 .a))) (.nx .a (.n 2)))) (.ret (.tup (.c4 (.z "put") .f (.itm .e (.nx .a (.min (.n 4) (.len .e)))) .g))))
theorem XN:f7 tab pq "_law_deed" 75 6 4 bK9=true:=by k_extra"#"
def bL0:ISs:=(.c1 (.iff (.cmp .Eq (.itk .d 0) (.z "take")) (.c1 (.seti (.itm .b (.itk .d 1)) (.itk .d 2) (.itk .d 3))) (.c2 (.asgc 3 [2] (.e (.itm .a (.itk .d 1))) (.t (.cmp .NotEq (.itk .a 0) (.itk .b 2)) .a)) (.seti .a (.itk .d 1) (.sortp (.bin .Add .e (.L (.c1 (.tup (.c2 (.itk .d 2) (.itk .d 3)))))))))))
theorem J2:f7 tab pq "_law_noted" 76 4 3 bL0=true:=by k_extra"#"
def Qy:ISs:=(.c1 (.iff (.cmp .Eq .d (.n 0)) (.c1 (.expr (.append .a (.L (.c2 .b (.list .b)))))) (.c1 (.iff (.cmp .Eq .d (.n 1)) (.c1 (.expr (.append .b (.n 7)))) (.c1 (.expr (.insert .b (.n 0) (.n 7))))))))
theorem PQ:f7 tab pq "_law_kept" 77 3 3 Qy=true:=by k_extra"#"
def bQ4:ISs:=(.cons (.asg 5 (.bin .Mod (.bin .FloorDiv .d (.n 4)) (.len (.itk .e 0)))) (.c9 (.asg 6 (.bin .Mod (.bin .FloorDiv .d (.n 64)) (.len (.itm (.itk .e 2) .g)))) (.iff (.cmp .Eq (.bin .Mod .d (.n 4)) (.n 0)) (.c2 (.asg 7 (.mcall "File" "value" "File.value" .a (.c2 .g .h))) (.ret (.and (.call "_law_whole" (.c1 .i)) (.cmp .Eq .i (.itm (.itm (.itk .e 2) .g) .h))))) .nil) (.iff (.cmp .Eq (.bin .Mod .d (.n 4)) (.n 1)) (.c4 (.asg 7 (.mcall "File" "values" "File.values" .a (.c1 .g))) (.iff (.or (.not (.of (.isi .i .list))) (.cmp .NotEq .i (.itm (.itk .e 2) .g))) (.c1 (.ret (.k (.bool false)))) .nil) (.expr (.call "_law_kept" (.c3 .b .i (.bin .Mod (.bin .FloorDiv .d (.n 4096)) (.n 3))))) (.ret (.k (.bool true)))) .nil) (.iff (.cmp .Eq (.bin .Mod .d (.n 4)) (.n 2)) (.c2 (.asg 7 (.mcall "File" "owed" "File.owed" .a .nil)) (.ret (.and (.call "_law_whole" (.c1 .i)) (.cmp .Eq .i (.sum (.comp [4] (.e (.itk .e 2)) (.e (.itm .a .b)))))))) .nil) (.asg 7 (.mcall "File" "told" "File.told" .a (.c1 .g))) (.iff (.or (.not (.of (.isi .i .tuple))) (.cmp .NotEq .i (.tup (.c2 (.itm (.itk .e 0) .g) (.itm (.itk .e 1) .g))))) (.c1 (.ret (.k (.bool false)))) .nil) (.expr (.call "_law_kept" (.c3 .b (.itk .i 0) (.bin .Mod (.bin .FloorDiv .d (.n 4096)) (.n 3))))) (.expr (.call "_law_kept" (.c3 .b (.itk .i 1) (.bin .Mod (.bin .FloorDiv .d (.n 12288)) (.n 3))))) (.ret (.k (.bool true)))))
theorem Oa:f7 tab pq "_law_looked" 78 8 5 bQ4=true:=by k_extra"#"
def yJ:ISs:=(.c2 (.loopi (.v 16) (.r1 (.nx .e (.n 5))) (.c2 (.asg 17 (.nx .e (.n 2))) (.iff (.not (.of (.call "_law_looked" (.c5 (.itm .a (.v 17)) .d (.nx .e (.pw 6 1000000)) (.itm .b (.v 17)) (.itk .f 3))))) (.c1 (.ret (.k (.bool false)))) .nil))) (.ret (.k (.bool true))))
def Ep:ISs:=(.c6 (.asg 13 (.call "_law_all" (.c4 .g .h (.itk .j 0) (.itk .j 1)))) (.asg 14 (.call "_law_changed" (.c2 (.itk .j 2) (.v 13)))) (.asg 15 (.call "_law_told" (.c2 (.itm .a .i) (.v 12)))) (.seti .j (.n 2) (.v 13)) (.iff (.or (.not (.of (.isi (.v 15) .list))) (.or (.cmp .NotEq (.v 15) (.v 14)) (.cmp .NotEq (.comp [] (.e (.v 15)) (.t (.not (.of (.isi .a .tuple))) .a)) (.L .nil)))) (.c1 (.ret (.k (.bool false)))) .nil) (.expr (.call "_law_kept" (.c3 .d (.v 15) (.nx .e (.n 3))))))
def Uz:ISs:=(.cons (.asg 7 (.nx .e (.n 2))) (.cons (.asg 8 (.itm .b .i)) (.cons (.asg 9 (.len (.itk .j 0))) (.cons (.asg 10 (.tup (.c3 (.len (.itk .f 0)) (.len (.itk .f 1)) (.itk .f 2)))) (.cons (.iff (.cmp .Eq (.nx .e (.n 6)) (.n 1)) (.c2 (.asg 11 (.call "_law_wrong" (.c4 .e (.v 10) .l (.itk .f 4)))) (.iff (.not (.of (.call "_law_refused" (.c3 (.itm .a .i) (.itk (.v 11) 0) (.itk (.v 11) 1))))) (.c1 (.ret (.k (.bool false)))) .nil)) (.cons (.asg 12 (.call "_law_deed" (.c4 .e (.v 10) .l (.itk .f 4)))) (.cons (.expr (.call "_law_noted" (.c3 (.itk .j 0) (.itk .j 1) (.v 12)))) (.stop Ep)))) (.stop yJ))))))
theorem Ni:f7 tab pq "_law_step" 79 18 7 Uz=true:=by k_extra"#"
def Mt:ISs:=(.c4 (.asg 4 (.pick (.c2 (.bin .Add (.n 1) (.nx .d (.n 4))) (.n 8)) (.int (.cmp .Eq (.nx .d (.n 8)) (.n 1))))) (.asgc 5 [] (.r1 .f) (.e (.L .nil))) (.asgc 6 [3] (.r1 .f) (.e (.bin .Mult (.L (.c1 (.k (.bool false)))) .b))) (.ret (.L (.c3 .g .h (.call "_law_all" (.c4 .a .b .g .h))))))
theorem bs0:f7 tab pq "_law_begun" 80 7 4 Mt=true:=by k_extra"#"
def Bk:ISs:=(.c1 (.ret (.cmp .Eq (.comp [] (.e .i) (.t (.cmp .NotEq (.itk .a 0) (.itk .a 1)) .a)) (.L .nil))))
def Ck:ISs:=(.cons (.loop .l (.L (.c2 (.n 0) (.n 1))) (.c1 (.iff (.cmp .NotEq (.mcall "File" "owed" "File.owed" (.itm .h .l) .nil) (.sum (.comp [1] (.e (.itk (.itm .g .l) 2)) (.e (.itm .a (.itk .b 3)))))) (.c1 (.ret (.k (.bool false)))) .nil))) (.stop Bk))
def yf:ISs:=(.cons (.loopi .j (.r2 (.n 3) (.len .a)) (.c2 (.asg 4 (.L (.c1 (.call "_law_mixed" (.c2 (.itm .a .j) .j))))) (.iff (.not (.of (.call "_law_step" (.c7 .h .g .i .f .b .d .e)))) (.c1 (.ret (.k (.bool false)))) .nil))) (.stop Ck))
def XK:ISs:=(.cons (.asg 1 (.call "_law_form" (.c2 .a (.n 12)))) (.cons (.asg 2 (.call "form_of" (.c4 (.itk .b 0) (.itk .b 1) (.itk .b 2) (.itk .b 3)))) (.drop (.cons (.asg 3 (.call "_law_row" (.c1 (.itk .d 0)))) (.cons (.asg 4 (.L (.c1 (.call "_law_mixed" (.c2 (.call "_law_cell_at" (.c2 .a (.n 2))) (.n 3)))))) (.cons (.asg 5 (.L (.c2 (.call "_law_begun" (.c4 .d .e .f (.itk .b 2))) (.call "_law_begun" (.c4 .d .e .f (.itk .b 2)))))) (.cons (.asg 6 (.L (.c2 (.new "File" "File.__init__" (.c2 .d (.len (.itk (.itk .g 0) 0)))) (.new "File" "File.__init__" (.c2 .d (.len (.itk (.itk .g 1) 0))))))) (.cons (.asg 7 (.L .nil)) (.stop yf)))))))))
theorem aX4:f7 tab pq "law" 81 10 1 XK=true:=by k_extra"#"
section
variable{g:G}{Q:V->Hp->Prop}{C:Int}{rk:Int->Nat}{x d:Addr}{f:Nat->Nat->Int}
theorem BadD.e{n m:Nat}{w e:Str}(B:BadD n m C dd w e):e∈F4/\((w = "year"/\e = "NoYear")∨(w = "paper"/\e = "NoPaper")∨(w = "choice"/\e = "NoChoice")∨(w = "line"/\e = "NoLine")):=by
 cases B with
 | putP=>exact⟨.tail _ (.head _),.inr (.inl ⟨rfl,rfl⟩)⟩
 | takeC=>exact⟨.tail _ (.tail _ (.head _)),.inr (.inr (.inl ⟨rfl,rfl⟩))⟩
 | valL=>exact⟨.tail _ (.tail _ (.tail _ (.head _))),.inr (.inr (.inr ⟨rfl,rfl⟩))⟩
 | _=>exact⟨.head _,.inl ⟨rfl,rfl⟩⟩
theorem Qw(N:Nm g)(hD:19<=D)(F:FG rh tb C ow rk)(A:FlAt Z (fmV rh tb C ow) x d pa ma ra pds mks rws U T (k8 f rh.length T.length))(nz:NZ Z)(Y:Yrs C U T)(u4:∀ u∈U,u.length<=4)(B:BadD T.length rh.length C dd w e)(h:Q (.str w) Z):d8 g D true "_law_tried" [.ref x,dd] Z Q X:=by
 refine bd N ce3 (by k_extra"b") hD λcx p=>?_
 k_extra"w";refine vH p.N (p.dd (by decide)) F A nz Y u4 B ?_
 rcases B.e.2 with ⟨rfl,rfl⟩ | ⟨rfl,rfl⟩ | ⟨rfl,rfl⟩ | ⟨rfl,rfl⟩
 all_goals
  k_extra"w";exact p.h h
theorem Iz(N:Nm g)(hD:20<=D)(F:FG rh tb C ow rk)(A:FlAt Z (fmV rh tb C ow) x d pa ma ra pds mks rws U T (k8 f rh.length T.length))(nz:NZ Z)(Y:Yrs C U T)(u4:∀ u∈U,u.length<=4)(B:BadD T.length rh.length C dd w e)(h:Q (.bool true) Z):d8 g D true "_law_refused" [.ref x,dd,.str w] Z Q X:=by
 refine bd N bS4 (by k_extra"b") hD λcx p=>?_
 k_extra"w";refine Qw p.N (p.dd (by decide)) F A nz Y u4 B ?_
 k_extra"w";refine vH p.N (p.dd (by decide)) F A nz Y u4 B (Hit.yes ((by k_extra"#":∀ x∈F4,F4.contains x=true) e B.e.1) ?_)
 intro a M;k_extra"w";exact Qn p.N (p.dd (by decide)) (d6 _ _ _) B.e.1 (p.r (Sub.upd M) h)
end
structure WrL(n m:Nat)(C:Int)(y gd w0 l c k:V)(wd:Str):Prop where
 hy:Bd y n
 hg:f9 gd 0 ((n:Int)-1)=true
 cg:Atm gd
 hw:x4 w0=false
 cw:Atm w0
 cd:Atm (.str wd)
 hl:Bd l m
 hc:Bd c C
 hk:f9 k (0-1000000000) 1000000000=false
 ck:Atm k
def GoB(n m:Nat)(C:Int)(Z:Hp)(r:Addr):Prop:=∃ dd w e,BadD n m C dd w e/\Z r=some (.L [dd,.str w])
theorem GoB.sub{n m:Nat}{C:Int}(h:GoB n m C Z r)(k:Sub Z Z'):GoB n m C Z' r:=by refine v8 h λdd w e B q=>?_;exact⟨dd,w,e,B,k _ _ q⟩
structure WrS(st:Addr)(zq Z:Hp):Prop where
 stay:e9 [st] zq Z
 nz:NZ Z
 hst:∃ k:Int,Z st=some (.L [.int k])/\0<=k/\k<2147483647
def WrQ(n m:Nat)(C:Int)(st:Addr)(zq:Hp)(Q:VP):Prop:=∀ u b,WrS st zq u->GoB n m C u b->Q (.ref b) u
theorem WrS.new(h:WrS st zq Z){l:List V}(M:Z a=none)(hl:nzL l=true):WrS st zq (upd Z a (.L l)):=by
 exact f6 h.hst λk e q u=>⟨h.stay.trans (e9.new M),h.nz.upd hl,k,i4 e M,q,u⟩
theorem oJ{x:Str}{c:V}(Za:Atm a)(S:Atm b)(L:Atm c):nz (.tup [.str x,a,b,c])=true:=oM rfl rfl Za.nz S.nz L.nz
theorem xF{x:Str}(Za:Atm a)(S:Atm b):nz (.tup [.str x,a,b])=true:=pB rfl rfl Za.nz S.nz
theorem FT{x:Str}(Za:Atm a):nz (.tup [.str x,a])=true:=N4 rfl (by show(true&&(nz a&&true))=true;rw[Za.nz];rfl)
theorem qF(h:nz dd=true):nzL [dd,.str w]=true:=by show(nz dd&&true)=true;rw[h];rfl
theorem BadD.nz{n m:Nat}{C:Int}{w e:Str}(B:BadD n m C dd w e):Internal.nz dd=true:=by
 cases B with
 | putY I A q=>exact oJ I.cl A q
 | putP I u M A q=>exact oJ u A q
 | takeY I q=>exact oJ I.cl q (.bool _)
 | takeC I u K=>exact oJ u K.cl (.bool _)
 | valY I q=>exact xF I.cl q
 | valL I u K=>exact xF u K.cl
 | valsY I=>exact FT I.cl
 | toldY I=>exact FT I.cl
theorem qe{n m:Nat}{C:Int}(W:WrS st zq Z){E F:Str}(u:BadD n m C I q E)(w:BadD n m C L M F)(A:Z a=none)(Y:upd Z a (.L [I,.str q]) b=none) :
  WrS st zq (upd (upd Z a (.L [I,.str q])) b (.L [L,.str M]))/\GoB n m C (upd (upd Z a (.L [I,.str q])) b (.L [L,.str M])) a/\GoB n m C (upd (upd Z a (.L [I,.str q])) b (.L [L,.str M])) b/\Sub Z (upd (upd Z a (.L [I,.str q])) b (.L [L,.str M])):=
 ⟨(W.new A (qF u.nz)).new Y (qF w.nz),⟨_,_,_,u,i4 (d6 _ _ _) Y⟩,⟨_,_,_,w,d6 _ _ _⟩,(Sub.upd A).trans (Sub.upd Y)⟩
def LsB(n m:Nat)(C:Int)(st:Addr)(Z:Hp)(sa:Addr)(L:Nat)(rs:List Addr):Prop:=Z sa=some (.L (rs.map .ref))/\rs.length=L/\(∀ r∈rs,GoB n m C Z r/\r≠st)/\sa≠st
theorem GoB.ne{n m:Nat}{C k:Int}(h:GoB n m C u r)(A:Z r=none)(e:Z st=some (.L [.int k])):GoB n m C u r/\r≠st:=⟨h,λq=>by rw[q,e] at A;cases A⟩
theorem LsB.add{n m:Nat}{C:Int}(H:LsB n m C st Z sa L rs)(s:Sub Z u)(W:WrS st zq u)(E:∀ b∈bs,GoB n m C u b/\b≠st)(P:u o=none)(w:upd u o (.L (bs.map .ref)) e=none) :
  WrS st zq (upd (upd u o (.L (bs.map .ref))) e (.L (rs.map .ref++bs.map .ref)))/\LsB n m C st (upd (upd u o (.L (bs.map .ref))) e (.L (rs.map .ref++bs.map .ref))) e (L+bs.length) (rs++bs):=by
 have F:nzL (rs.map V.ref++bs.map .ref)=true:=by rw[<- aN];exact D3
 refine⟨((W.new P D3).new w F),by rw[aN];exact d6 _ _ _,by rw[aK,H.2.1],λr A=>?_,λq=>?_⟩
 ·have s2:Sub u (upd (upd u o (.L (bs.map .ref))) e (.L (rs.map .ref++bs.map .ref))):=(Sub.upd P).trans (Sub.upd w)
  rcases aH.mp A with q | q
  ·exact⟨((H.2.2.1 r q).1.sub s).sub s2,(H.2.2.1 r q).2⟩
  ·exact⟨(E r q).1.sub s2,(E r q).2⟩
 ·refine f6 ((W.new (l:=bs.map .ref) P D3).hst) λk z N N=>?_
  rw[q,z] at w;cases w
section
variable{g:G}{Q:V->Hp->Prop}{n m:Nat}{C:Int}{wa:Addr}{zs ct ws y gd l c k w0:V}{wd:Str}
theorem Xf(p:Pk pq tab g 1 Q X cx)(h:WrQ n m C st zq Q)(W:WrS st zq Z)(H:LsB n m C st Z sa 9 rs):Bh.w true l6 cx [] [some (.ref st),some zs,some ct,some ws,some y,some gd,some (.ref wa),some l,some c,some k,some (.ref sa)] Z:=by
 refine f6 W.hst λz e z0 z1=>G6 H λI hl A L=>?_
 k_extra"aE"
 have Za:upd Z st (.L [.int z']) sa=some (.L (rs.map .ref)):=p8 I L;have E:(rs.map V.ref).length=9:=by rw[aq];exact hl
 k_extra"w";refine Idx.mk r0 (bc6 r1 E) (aW r1 (by decide)) λv hv=>?_
 rw[aB] at hv;refine a7 (aR.mp hv) λb Y Ja=>?_;subst Ja
 obtain⟨⟨dd,w,F,B,q⟩,u⟩:=A b (aL Y);exact p.h (h _ b ⟨W.stay.trans (e9.upd (.head _)),W.nz.upd rfl,z',d6 _ _ _,z0',z1'⟩ ⟨dd,w,F,B,p8 q u⟩)
set_option tactic.hygienic true in
theorem NK(p:Pk pq tab g 1 Q X cx)(h:WrQ n m C st zq Q)(L:WrL n m C y gd w0 l c k wd)(W:WrS st zq Z)(H:LsB n m C st Z sa 6 rs):DX.w true l6 cx [] [some (.ref st),some zs,some ct,some ws,some y,some gd,some (.ref wa),some l,some c,some k,some (.ref sa)] Z:=by
 k_extra"c6"
 have O:=H.1;have K:(rs.map V.ref).length=6:=by rw[aq];exact H.2.1
 k_extra"w";rename_i a M b Y r A o P e Ja;have u:BadD n m C (.tup [.str "told",y]) "year" "NoYear":=.toldY L.hy;refine G6 (qe (n:=n) (m:=m) (C:=C) W (.valL L.hg L.cg L.hl) (.valsY L.hy) M Y) λW2 E F s2=>?_
 have s3:=s2.trans (Sub.upd (o:=.L [.tup [.str "told",y],.str "year"]) A);obtain⟨I,w⟩:=H.add (bs:=[a,b,r]) s3 (W2.new A (qF u.nz)) (λq hq=>by
  k_extra"bD"
  ·rw[z];exact(E.sub (Sub.upd A)).ne M ez
  k_extra"bD"
  ·rw[z];exact(F.sub (Sub.upd A)).ne (j4 (Sub.upd M) Y) ez
  ·rw[aA.mp hq];exact GoB.ne ⟨_,_,_,u,d6 _ _ _⟩ (j4 s2 A) ez) P Ja
 exact Stop.mk (Xf p h I w)
set_option tactic.hygienic true in
theorem Ot(p:Pk pq tab g 1 Q X cx)(h:WrQ n m C st zq Q)(L:WrL n m C y gd w0 l c k wd)(W:WrS st zq Z)(H:LsB n m C st Z sa 4 rs):yg.w true l6 cx [] [some (.ref st),some zs,some ct,some ws,some y,some gd,some (.ref wa),some l,some c,some k,some (.ref sa)] Z:=by
 k_extra"c6"
 have F:=H.1;have E:(rs.map V.ref).length=4:=by rw[aq];exact H.2.1
 k_extra"w";rename_i a M b Y o P e A;refine G6 (qe (n:=n) (m:=m) (C:=C) W (.takeC (b:=true) L.hg L.cg L.hc) (.valY L.hy L.hl.cl) M Y) λW2 u w s2=>?_
 obtain⟨W5,H5⟩:=H.add (bs:=[a,b]) s2 W2 (λq hq=>by
  k_extra"bD"
  ·rw[z];exact u.ne M ez
  ·rw[aA.mp hq];exact w.ne (j4 (Sub.upd M) Y) ez) P A
 exact Stop.mk (NK p h L W5 H5)
set_option tactic.hygienic true in
theorem VJ(p:Pk pq tab g 1 Q X cx)(h:WrQ n m C st zq Q)(L:WrL n m C y gd w0 l c k wd)(Za:Z u=some (.L (.str wd::wt)))(W:WrS st zq Z)(H:LsB n m C st Z sa 2 rs):Ae.w true l6 cx [] [some (.ref st),some zs,some ct,some (.ref u),some y,some gd,some (.ref wa),some l,some c,some k,some (.ref sa)] Z:=by
 k_extra"c6"
 have Ja:=H.1;have I:(rs.map V.ref).length=2:=by rw[aq];exact H.2.1
 k_extra"w";rename_i a M b Y o P e F;obtain⟨W2,A,E,s2⟩:=qe (n:=n) (m:=m) (C:=C) W (.putP (w:=.str wd) L.hg L.cg (by rw[L.hk,gb]) L.cd L.ck) (.takeY (b:=true) L.hy L.hc.cl) M Y
 obtain⟨W5,H5⟩:=H.add (bs:=[a,b]) s2 W2 (λq hq=>by
  k_extra"bD"
  ·rw[z];exact A.ne M ez
  ·rw[aA.mp hq];exact E.ne (j4 (Sub.upd M) Y) ez) P F
 exact Stop.mk (Ot p h L W5 H5)
set_option tactic.hygienic true in
theorem bf0(p:Pk pq tab g 1 Q X cx)(h:WrQ n m C st zq Q)(L:WrL n m C y gd w0 l c k wd){F:Addr}(hw:Z F=some (.L (.str wd::wt)))(H:Z wa=some (.L [w0,.str wd]))(I:F≠st)(Ja:wa≠st)(W:WrS st zq Z):zR.w true l6 cx [] [some (.ref st),some zs,some ct,some (.ref F),some y,some gd,some (.ref wa),some l,some c,some k,none] Z:=by
 refine f6 W.hst λz e z0 z1=>?_
 k_extra"aE"
 have R:WrS st zq (upd Z st (.L [.int z'])):=⟨W.stay.trans (e9.upd (.head _)),W.nz.upd rfl,z',d6 _ _ _,z0',z1'⟩;have O:upd Z st (.L [.int z']) F=_:=p8 hw I;have A:upd Z st (.L [.int z']) wa=_:=p8 H Ja;have E:=d6 Z st (.L [.int z']);generalize upd Z st (.L [.int z'])=τ at R O A E ⊢;k_extra"w";refine Idx.mk r0 r1 (aW r1 (by decide)) λv hv=>?_
 have S:Atm v:=by
  rcases au.mp (aL hv) with q | q
  ·rw[q];exact L.cw
  ·rw[aA.mp q];exact L.cd
 k_extra"w";rename_i a M b Y o P;obtain⟨W2,Za,g2,s2⟩:=qe (n:=n) (m:=m) (C:=C) R (.putY L.hy S L.ck) (.putP (w:=w0) (k:=.int 5) L.hg L.cg (by rw[L.hw];rfl) L.cw (.int 5)) M Y
 have K:=g2.ne (j4 (Sub.upd M) Y) E;have u:=Za.ne M E;refine Stop.mk (VJ (rs:=[a,b]) p h L (i4 (s2 _ _ O) P) (W2.new P rfl) ⟨d6 _ _ _,rfl,λq hq=>?_,λq=>?_⟩)
 ·k_extra"bD"
  ·rw[z];exact⟨u.1.sub (Sub.upd P),u.2⟩
  ·rw[aA.mp hq];exact⟨K.1.sub (Sub.upd P),K.2⟩
 ·have:=s2 _ _ E
  rw[q,this] at P;cases P
end
theorem uW{n:Int}:Bd (.int (-1)) n:=⟨rfl,.int _⟩
theorem ue{n:Int}:Bd .none n:=⟨rfl,.none⟩
theorem qT{n:Int}:Bd (.bool b) n:=⟨rfl,.bool _⟩
theorem DQ{n:Int}{x:Str}(h:x.length<=10000):Bd (.str x) n:=⟨rfl,.str h⟩
theorem Q0{n:Int}(h:n<=i):Bd (.int i) n:=⟨by show(decide (0<=i)&&decide (i<=n-1))=false;rw[decide_eq_false (p:=i<=n-1) (by exact Int.not_le.mpr (gF (jK _ (by decide)) h)),gb],.int _⟩
section
variable{g:G}{Q:V->Hp->Prop}{n m:Nat}{C:Int}
theorem u6(N:Nm g)(hD:1<=D)(W:WrS st zq Z)(K:0<k)(c:k<2 ^ 60)(h:∀ r w,0<=r->r<k->WrS st zq w->e9 [st] Z w->Q (.int r) w):d8 g D true "_law_next" [.ref st,.int k] Z Q X:=by
 exact f6 W.hst λz e E R=>H1 N hD e E R K c λr A u r1 F q=>h r _ u r1 ⟨W.stay.trans (e9.upd (.head _)),W.nz.upd rfl,A,d6 _ _ _,F,q⟩ (e9.upd (.head _))
theorem Yk(N:Nm g)(hD:2<=D)(W:WrS st zq Z)(h:∀ r q,-1000000000<=r->r<=1000000000->WrS st zq q->e9 [st] Z q->Q (.int r) q):d8 g D true "_law_number" [.ref st] Z Q X:=by
 exact f6 W.hst λz e E R=>uq N hD e E R λr A u r1 F c=>h r _ u r1 ⟨W.stay.trans (e9.upd (.head _)),W.nz.upd rfl,A,d6 _ _ _,F,c⟩ (e9.upd (.head _))
set_option tactic.hygienic true in
theorem Vx(N:Nm g)(hD:2<=D){F:Addr}(W:WrS st zq Z)(hw:Z F=some (.L (.str L::wt)))(hwl:F≠st)(Ja:Atm (.str L))(P:1<=n)(E:n<=8)(h:WrQ n m C st zq Q):d8 g D true "_law_wrong" [.ref st,.tup [.int m,t,.int C],.int n,.ref F] Z Q X:=by
 refine bd N bH0 (by k_extra"b") hD λcx p=>?_
 k_extra"w";refine u6 p.N (p.dd (by decide)) W (by decide) (by decide) λr1 R u _ W S1=>?_
 k_extra"c7";k_extra"q"
 k_extra"I";refine K4 (λv=>Bd v n) h0 h1 (λv hv=>?_) λy I=>?_
 ·k_extra"a3"
  k_extra"c8"
  ·exact uW
  ·exact Q0 (gR _)
  ·exact Q0 (gk u)
  ·exact ue
  ·exact qT
  ·exact DQ (by k_extra"#")
 clear h0 h1 u;k_extra"w";refine u6 p.N (p.dd (by decide)) W (Cj P) (Dj E) λgd τ' H M W S1=>?_
 k_extra"c7";k_extra"q"
 k_extra"I";refine K4 (λv=>x4 v=false/\Atm v) h0 h1 (λv hv=>?_) λw q=>?_
 ·k_extra"a3"
  rcases hv with rfl | rfl | rfl | rfl | rfl | rfl | rfl
  ·k_extra"H"
  ·k_extra"H"
  ·k_extra"H"
  ·exact⟨rfl,.none⟩
  ·k_extra"H"
  ·k_extra"H"
  ·k_extra"H"
 clear h0 h1;k_extra"w";rename_i x A;have hwn:x≠st:=by refine f6 W.hst λz e _ _=>?_;exact(j7 e A).symm
 have W:=W.new (l:=[w,.str L]) A (by show(nz w&&true)=true;rw[q.2.nz];rfl)
 have hwa:=d6 τ' x (.L [w,.str L]);have hw:=i4 (o:=.L [w,.str L]) hw A;generalize upd τ' x (.L [w,.str L])=τ' at W hwa hw ⊢;k_extra"q"
 k_extra"af";refine K4 (λv=>Bd v m) h0 h1 (λv hv=>?_) λl hl=>?_
 ·k_extra"a3"
  k_extra"c8"
  ·exact Q0 (gR _)
  ·exact uW
  ·exact ue
  ·exact Q0 (Int.le.intro 9 rfl)
  ·exact qT
  ·exact DQ (by k_extra"#")
 clear h0 h1;k_extra"w";k_extra"q"
 k_extra"af";refine K4 (λv=>Bd v C) h0 h1 (λv hv=>?_) λc O=>?_
 ·k_extra"a3"
  rcases hv with rfl | rfl | rfl | rfl | rfl
  ·exact Q0 (gR _)
  ·exact uW
  ·exact ue
  ·exact qT
  ·exact Q0 (by exact Int.le.intro 1000000 rfl)
 clear h0 h1;k_extra"w";k_extra"q"
 k_extra"af";refine K4 (λv=>f9 v (0-1000000000) 1000000000=false/\Atm v) h0 h1 (λv hv=>?_) λk K=>?_
 ·k_extra"a3"
  rcases hv with rfl | rfl | rfl | rfl
  ·exact⟨by k_extra"#",.int _⟩
  ·exact⟨rfl,.none⟩
  ·exact⟨rfl,.bool _⟩
  ·exact⟨rfl,.str (by k_extra"#")⟩
 exact Stop.mk (bf0 p h ⟨I,r8 H (BK M),.int _,q.1,q.2,Ja,hl,O,K.1,K.2⟩ hw hwa hwl hwn W)
end
inductive GoodD(n:Nat)(C:Int)(W4:List Str):V->Prop
 | put {y:Nat} {w:Str} {i:Int} (hy:y<n) (hw:w∈W4) (i0 : -1000000000<=i) (i1:i<=1000000000):GoodD n C W4 (.tup [.str "put",.int y,.str w,.int i])
 | take {y c:Nat} {b:Bool} (hy:y<n) (hc:(c:Int)<C):GoodD n C W4 (.tup [.str "take",.int y,.int c,.bool b])
section
variable{g:G}{Q:V->Hp->Prop}{n:Nat}{C:Int}
set_option tactic.hygienic true in
theorem GF(N:Nm g)(hD:3<=D){F:Addr}{m:V}(W:WrS st zq Z)(hw:Z F=some (.L (ws.map .str)))(hwl:F≠st)(w5:5<=ws.length)(w8:ws.length<=8)(n1:1<=n)(n8:n<=8)(K:C<=8)(h:∀ x dd,WrS st zq x->GoodD n C (ws.take 4) dd->Q dd x):d8 g D true "_law_deed" [.ref st,.tup [m,t,.int C],.int n,.ref F] Z Q X:=by
 refine bd N XN (by k_extra"b") hD λcx p=>?_
 k_extra"w";refine u6 p.N (p.dd (by decide)) W (Cj n1) (Dj n8) λy x I y1 W S1=>?_
 k_extra"I";refine d4 (bM I) λy Ja=>?_;clear I;subst Ja
 have y1:y<n:=pZ y1;k_extra"w";refine u6 p.N (p.dd (by decide)) W (by decide) (by decide) λr x _ _ W S1=>?_
 have hw:=S1 _ _ (j9 hwl) hw;clear S1;have E:∀ {o:Option V} {x:Hp},WrS st zq x->x F=some (.L (ws.map .str))->(ISs.cons (IS.asg 5 (.pick (.cons (.bin .Sub (.call "_law_next" (.cons (.v 0) (.cons (.k (.int 5)) .nil))) (.k (.int 2))) (.cons (.call "_law_number" (.cons (.v 0) .nil)) .nil)) (.call "_law_next" (.cons (.v 0) (.cons (.k (.int 2)) .nil))))) (.cons (.ret (.tup (.cons (.k (.str "put")) (.cons (.v 4) (.cons (.itm (.v 3) (.call "_law_next" (.cons (.v 0) (.cons (.min (.k (.int 4)) (.len (.v 3))) .nil)))) (.cons (.v 5) .nil)))))) .nil)).w true l6 cx [] [some (.ref st),some (.tup [m,t,.int C]),some (.int n),some (.ref F),some (.int y),o] x:=fun{o x} W hw=>by
  have hl:(ws.map V.str).length=ws.length:=aq _;k_extra"w";refine u6 p.N (p.dd (by decide)) W (by decide) (by decide) λa x O R W S1=>?_
  k_extra"c7";refine Yk p.N (p.dd (by decide)) W λb x A T W S1=>?_
  k_extra"c7";refine u6 p.N (p.dd (by decide)) W (by decide) (by decide) λr2 x M Za W S1=>?_
  k_extra"I";refine K4 (λv=>∃ i:Int,v=.int i/\-1000000000<=i/\i<=1000000000) M Za (λv hv=>?_) λv hv=>?_
  ·rcases au.mp hv with q | q
   ·exact⟨_,q,by exact aW (by decide) (Int.sub_le_sub_right O _),by exact aW (Int.sub_le_self _ (by decide)) (aW (eU R) (by decide))⟩
   ·exact⟨b,aA.mp q,A,T⟩
  refine f6 hv λi Ja U Y=>?_;clear hv;subst Ja
  k_extra"w";have P:min (4:Int) ((ws.map V.str).length:Int)=4:=by rw[hl];lia
  refine(?_:d8 _ _ _ _ [V.ref st,.int (min 4 ((ws.map V.str).length:Int))] _ _ _);rw[P];refine u6 p.N (p.dd (by decide)) W (by decide) (by decide) λr3 x S L W S1=>?_
  k_extra"c7";refine Idx.mk S (by exact gF L (aW (by decide) (bj.mpr (aj w5 (aG hl.symm))))) (aW L (by decide)) λv hv=>?_
  rw[aB] at hv;refine a7 (aR.mp hv) λw u Ja=>?_;clear hv;subst Ja
  k_extra"w";refine p.h (h _ _ W (.put y1 (aL (i:=r3.toNat) ?_) U Y));rw[List.getElem?_take,if_pos (co7 L)];exact u
 k_extra"w"
 ·rename_i q1 q2
  refine u6 p.N (p.dd (by decide)) W (q2) (bG K (by decide)) λc x H c1 W S1=>d4 (bM H) λc Ja=>?_
  clear H;subst Ja;k_extra"w";refine u6 p.N (p.dd (by decide)) W (by decide) (by decide) λb x _ _ W S1=>?_
  k_extra"w";exact p.h (h _ _ W (.take y1 c1))
 ·exact E W hw
 ·exact E W hw
end
theorem IV(h:nzL l=true):∀ x∈l,nz x=true:=by
 induction l with
 | nil=>intro x U;cases U
 | cons y l ih=>
  intro x U;have h:=h;rcases au.mp U with q | q
  ·rw[q];exact(b9 h).1
  ·exact ih (b9 h).2 x q
section
variable{g:G}{Q:V->Hp->Prop}{P T:Addr}{ps ts:List Addr}{y:Nat}
theorem bB9(N:Nm g)(hD:1<=D){t:List Bool}(q:Z T=some (.L (ts.map .ref)))(M:ts[y]?=some a)(R:Z a=some (.L (t.map .bool)))(O:c<t.length)(u:t.length<=100)(Ja:y<=100)(h:Q .none (upd Z a (.L ((t.set c b).map .bool)))) :
  d8 g D true "_law_noted" [.ref P,.ref T,.tup [.str "take",.int y,.int c,.bool b]] Z Q X:=by
 k_extra"cW"
 have hl:(t.map V.bool).length=t.length:=aq _;k_extra"w";refine i8 y (.ref a) rfl (by rw[aB,M];rfl) Ja ?_
 k_extra"w";rw[dg,CV];exact pn (Sub.refl _) h
set_option tactic.hygienic true in
theorem Yl(N:Nm g)(hD:1<=D){s:List (Str×Int)}(nz:NZ Z)(hP:Z P=some (.L (ps.map .ref)))(M:ps[y]?=some a)(E:Z a=some (.L (s.map tS)))(sz:s.length<=4)(nd:((s.filter λp=>p.1 != w)++[(w,i)] |>.map (·.1)).Nodup)(s4:((s.filter λp=>p.1 != w)++[(w,i)]).length<=4)(pz:ps.length<=100)
  (h:∀ Z' b (s':List (Str×Int)),e9 [P] Z Z'->NZ Z'->Z' P=some (.L ((ps.set y b).map .ref))->Z' b=some (.L (s'.map tS))->Z b=none->s'.Perm ((s.filter λp=>p.1 != w)++[(w,i)])->s'.Pairwise ltP->Q .none Z') :
  d8 g D true "_law_noted" [.ref P,.ref T,.tup [.str "put",.int y,.str w,.int i]] Z Q X:=by
 k_extra"cW"
 have yz:=(aF.mp M).1;k_extra"w";refine i8 y (.ref a) rfl (by rw[aB,M];rfl) (aj (bN yz) (aj pz (by decide))) ?_
 refine Look.mk _ E ?_;refine CLoop.g p (λI F Z'=>Z=Z'/\∃ d1 d2,s=d1++d2/\I=d2.map tS/\F=(d1.filter λp=>p.1 != w).map tS) (by rw[aq];exact aj sz (aZ ..)) ⟨rfl,[],s,rfl,rfl,rfl⟩ (λcx p v I F U hN=>?_) ?_
 ·rintro _ hh;k_extra"8"
  refine⟨E,?_⟩;cases d2 with
  | nil=>cases e2
  | cons q d2=>
   obtain⟨rfl,rfl⟩:=List.cons.inj e2;k_extra"w"
   ·rename_i z
    exact U ⟨rfl,d1++[q],d2,by rw[e1,bH];rfl,rfl,by rw[dI,dw,if_pos (bne_iff_ne.mpr z),aN];rfl⟩
   ·rename_i z
    exact hN ⟨rfl,d1++[q],d2,by rw[e1,bH];rfl,rfl,by rw[dI,dw,if_neg (by rw[z];simp),List.filter_nil,bI]⟩
 ·rintro F _ hh;k_extra"8"
  k_extra"F"
  rw[bI] at e1;clear e2;subst e1;refine⟨E,λJa R=>?_⟩
  have kl:((s.filter λp=>p.1 != w).map tS).length<=4:=by rw[aq];exact aj (iy _ _) sz
  k_extra"w";rename_i A O x H;have s1:=((Sub.upd (o:=.L ((s.filter λp=>p.1 != w).map tS)) R).trans (Sub.upd (o:=.L [.tup [.str w,.int i]]) O)).trans (Sub.upd (o:=.L ((s.filter λp=>p.1 != w).map tS++[.tup [.str w,.int i]])) H)
  have L:NZ (upd (upd (upd Z Ja (.L ((s.filter λp=>p.1 != w).map tS))) A (.L [.tup [.str w,.int i]])) x (.L ((s.filter λp=>p.1 != w).map tS++[.tup [.str w,.int i]]))):=((nz.upd M8).upd rfl).upd (by have:=M8 (u:=(s.filter λp=>p.1 != w)++[(w,i)]);rw[aN] at this;exact this)
  refine SrtL.mk ((s.filter λp=>p.1 != w)++[(w,i)]) (by rw[aN];exact d6 _ _ _) (Srtp.mk nd s4 λb s' Y Za S=>?_)
  have C:=s1 _ _ hP;generalize upd (upd (upd Z Ja (.L ((s.filter λp=>p.1 != w).map tS))) A (.L [.tup [.str w,.int i]])) x (.L ((s.filter λp=>p.1 != w).map tS++[.tup [.str w,.int i]]))=τ at s1 L Y C ⊢
  have hl:(ps.map V.ref).length=ps.length:=aq _;k_extra"w";have K:=(j7 C Y).symm;refine pn (Sub.refl _) (h _ b s' (λc o q e=>?_) ((L.upd M8).upd ?_) ?_ (by rw[e8 _ _ K];exact d6 _ _ _) (j4 s1 Y) Za S)
  ·k_extra"bs";exact Sub.upd Y _ _ (s1 _ _ e)
  ·rw[map_set V.ref ps];exact D3
  ·rw[d6,dg,map_set V.ref ps]
set_option tactic.hygienic true in
theorem Th(N:Nm g)(hD:1<=D)(F:Z hl=some (.L H))(E:Z u=some (.L l))(C:H.length<=10000)(Ja:l.length<=9000)(c:nzL l=true)
  (Y:∀ b a,Z b=none->upd Z b (.L l) a=none->Q .none (upd (upd (upd Z b (.L l)) a (.L [.ref u,.ref b])) hl (.L (H++[.ref a])))) (Za:∀ l',nzL l'=true->Q .none (upd Z u (.L l'))):d8 g D true "_law_kept" [.ref hl,.ref u,.int k] Z Q X:=by
 refine bdn N PQ (by k_extra"b") hD λcx p w=>?_
 k_extra"w"
 ·rename_i b A a M
  exact w (Sub.refl _) (Y b a A M)
 ·refine w (Sub.refl _) (Za _ (v4 λx hx=>?_))
  k_extra"aI"
  ·exact IV c x q
  ·rw[aA.mp q];rfl
 ·exact w (Sub.refl _) (Za _ c)
end
theorem Dg{D:List (Str×V)}(hn:(D.map (·.1)).Nodup)(h:(x,v)∈D):i9 D x=some v:=by
 induction D with
 | nil=>cases h
 | cons p D c=>
  refine d5 (dC.mp hn) λh1 h2=>?_
  unfold i9;rw[fK];by_cases q:p.1=x
  ·rw[decide_eq_true q]
   rcases au.mp h with z | z
   ·rw[<- z];rfl
   ·exact absurd (aM.mpr ⟨_,z,rfl⟩:x∈D.map (·.1)) (q▸h1)
  ·rw[decide_eq_false q]
   rcases au.mp h with z | z
   ·exact absurd (congrArg (·.1) z).symm q
   ·exact c h2 z
theorem Ib{D:List (Str×V)}(h:x∉D.map (·.1)):i9 D x=none:=by
 cases e:i9 D x with
 | none=>rfl
 | some v=>exact absurd (yH e) h
theorem TJ{u s:List (Str×Int)}(h:s.Perm u)(w:(u.map (·.1)).Nodup)(x:Str):C6 s x=C6 u x:=by
 unfold C6;have K:(dS s).Perm (dS u):=h.map _;have O:=E8▸w;have Ja:=(K.map _).nodup_iff.mpr O;cases e:i9 (dS u) x with
 | none=>
  rw[Ib λq=>?_]
  refine a7 (aM.mp ((K.map _).mem_iff.mp q)) λp y z=>?_
  rw[<- z,Dg O (x:=p.1) (v:=p.2) y] at e;cases e
 | some v=>
  have:(x,v)∈dS u:=by
   unfold i9 at e;refine a7 (aR.mp e) λq c z=>?_
   have Za:=jO c;have S:=eQ c;have L:=f4 Za;rw[<- L,<- z];exact S
  rw[Dg Ja (K.mem_iff.mpr this)]
theorem Un{E:List Int}{T:List Bool}(h:∀ x,C6 P x=C6 y x):∀ {n:Nat} {v:V},ok z n v=true->wv ⟨P,E,T,tb⟩ f n v=wv ⟨y,E,T,tb⟩ f n v:=by
 intro n;induction n with
 | zero=>intro v hk;exact ff hk
 | succ n q=>
  intro v hk;cases K0 hk with
  | num i=>rw[O6,O6]
  | paper x=>rw[R9,R9];exact h x
  | line i _ _=>rw[P5,P5]
  | earlier i _ _=>rw[S2,S2]
  | part r i A _ _=>rw[T3,T3,q A]
  | table i r _ _ A=>rw[S5,S5,q A]
  | two w r t c A R=>rw[Q2 c,Q2 c,q A,q R]
  | wher r t u A R L=>rw[N1,N1,q A,q R,q L]
  | choo i r t _ _ A R=>rw[N2,N2,q A,q R]
theorem HY{E:List Int}{T:List Bool}(h:∀ x,C6 P x=C6 w x)(L:Lnk z rh rk):C4 rh ⟨P,E,T,tb⟩ rk=C4 rh ⟨w,E,T,tb⟩ rk:=by
 have y:∀ (k:Nat) (i:Nat),i<rh.length->rk i<k->sol rh ⟨P,E,T,tb⟩ rk i=sol rh ⟨w,E,T,tb⟩ rk i:=by
  intro k;induction k with
  | zero=>intro i _ q;exact absurd q (dX _)
  | succ k C=>
   intro i u q;rw[<- oK L u,<- oK L u,Un h (L.ok i u)];refine Y7 (L.ok i u) λj A=>?_
   obtain⟨⟨D,M⟩,F⟩:=L.dn i u j A;refine d4 (bM D) λc Ja=>?_;subst Ja
   exact C c (pZ M) (aX F (cz q))
 unfold C4;exact dN λi u=>y _ i (bY.mp u) (dO _)
structure PmU(S U:List (List (Str×Int))):Prop where
 len:S.length=U.length
 pm:∀ {j:Nat} {s u},S[j]?=some s->U[j]?=some u->s.Perm u/\s.Pairwise ltP
theorem bL9{B:List (List Bool)}(L:Lnk z rh rk)(H:PmU S U)(q:∀ u∈U,(u.map (·.1)).Nodup)(x:U.length=B.length):∀ k,k<=B.length->eY rh tb rk S B k=eY rh tb rk U B k:=by
 intro k;induction k with
 | zero=>intro _;rfl
 | succ k w=>
  intro K;have Za:k<U.length:=Nat.lt_of_lt_of_eq K (id (jq x));have c:k<S.length:=by rw[H.len];exact Za
  rw[U3 (ak c) (ak K),U3 (ak Za) (ak K),w (Nat.le_of_succ_le K)];exact HY (TJ (H.pm (ak c) (ak Za)).1 (q _ (cT Za))) L
theorem bD3{B:List (List Bool)}(L:Lnk z rh rk)(H:PmU S U)(q:∀ u∈U,(u.map (·.1)).Nodup)(c:U.length=B.length):hL rh tb rk S B B.length=k8 (yF rh tb rk U B) rh.length B.length:=by
 rw[<- pL (aG c.symm) (aV _)];unfold hL;exact dN λj P=>by rw[bL9 L H q c _ (by have:=bY.mp P;exact this)]
theorem vm(A:(u.map (·.1)).Nodup):(B5 u w i).Perm ((u.filter λp=>p.1 != w)++[(w,i)]):=by
 unfold B5;by_cases q:(u.any λp=>decide (p.1=w))=true
 ·rw[if_pos q]
  refine a7 (fj.mp q) λp hp e=>?_
  have e:=f4 e;refine k9 (List.append_of_mem hp) λa b Ja=>?_;subst Ja
  rw[aN,eF] at A;refine i5 (cA.mp A) λM Y c=>?_
  have y:∀ x∈a,x.1≠w:=λx U z=>c x.1 (dM U) _ (.head _) (z.trans e.symm)
  have T:∀ x∈b,x.1≠w:=λx U z=>(dC.mp Y).1 (by rw[e,<- z];exact dM U)
  have C:∀ {l:List (Str×Int)},(∀ x∈l,x.1≠w)->(l.map λp=>if p.1=w then(w,i) else p)=l:=fun{l} h=>by
   refine(dN λx U=>if_neg (h x U)).trans (List.map_id' l)
  have D:∀ {l:List (Str×Int)},(∀ x∈l,x.1≠w)->(l.filter λp=>p.1 != w)=l:=λh=>iV.mpr λx U=>bne_iff_ne.mpr (h x U)
  rw[aN,eF,C y,C T,if_pos e,dI,dw,if_neg (by rw[e];simp),D y,D T]
  exact List.perm_middle.trans (List.perm_append_singleton _ _).symm
 ·rw[if_neg q,iV.mpr λx U=>bne_iff_ne.mpr λe=>q (fj.mpr ⟨x,U,decide_eq_true e⟩)]
theorem zg{u:List (Str×Int)}{i:Int}(c:(u.map (·.1)).Nodup):(((u.filter λp=>p.1 != w)++[(w,i)]).map (·.1)).Nodup:=by
 rw[aN];refine cA.mpr ⟨c.sublist (lJ.map _),by simp,λx U y hy e=>?_⟩
 refine a7 (aM.mp U) λp q z=>?_
 have:=(dD.mp q).2;rw[aA.mp hy] at e;rw[z,e] at this;simp at this
theorem yw(c:(u.map (·.1)).Nodup)(h:p∈B5 u w i):p∈u∨p=(w,i):=by
 rcases aH.mp ((vm c).mem_iff.mp h) with q | q
 ·exact .inl (dD.mp q).1
 ·exact .inr (aA.mp q)
theorem Bg{u:List (Str×Int)}{W:List Str}(q:(u.map (·.1)).Nodup)(h:∀ p∈u,p.1∈W):u.length<=W.length:=by
 have:=E4 (l:=(u.map λp:Str×Int=>p.1).map V.str) (k:=W.map V.str) (List.Pairwise.map _ (λa b c e=>c (V.str.inj e)) q) λy hy=>by
  refine a7 (aM.mp hy) λx hx qa=>?_;subst qa
  refine a7 (aM.mp hx) λp hp qa=>?_;subst qa
  exact dM (h p hp)
 rwa[aq,aq,aq] at this
theorem Jh{a b:List (Str×Int)}(Za:a.Perm u)(S:a.Pairwise ltP)(L:b.Perm u)(X:b.Pairwise ltP):a=b:=
 List.Perm.eq_of_pairwise (λx y N N p q=>absurd p (List.lt_asymm q)) S X (Za.trans L.symm)
theorem GP.put{u:List (Str×Int)}(h:GP u)(c:m8 w=true)(A : -1000000000<=i)(Y:i<=1000000000):GP (B5 u w i):=by
 have x:=E8▸h.nd;refine⟨by rw[E8];exact((vm x).map _).nodup_iff.mpr (zg x),λp y=>?_,λp y=>?_,λp y=>?_⟩<;>rcases yw x y with q | q
 ·exact h.wd p q
 ·rw[q];exact c
 ·exact h.lo p q
 ·rw[q];exact A
 ·exact h.hi p q
 ·rw[q];exact Y
set_option genSizeOf false
set_option genInjectivity false
structure Sd where
 x:Addr
 d:Addr
 pa:Addr
 ma:Addr
 m:Addr
 P:Addr
 T:Addr
 pds:List Addr
 mks:List Addr
 ts:List Addr
structure Sv where
 ra:Addr
 R:Addr
 rws:List Addr
 rs:List Addr
 ps:List Addr
 U:List (List (Str×Int))
 S:List (List (Str×Int))
 B:List (List Bool)
structure Fo where
 rh:List V
 tb:List V
 C:Int
 ow:Int
 rk:Int->Nat
 W4:List Str
def Fo.fm(o:Fo):V:=fmV o.rh o.tb o.C o.ow
def Fo.f(o:Fo)(U:List (List (Str×Int)))(B:List (List Bool)):Nat->Nat->Int:=yF o.rh o.tb o.rk U B
def Sd.W(s:Sd):List Addr:=s.d::s.m::s.P::(s.pds++(s.mks++s.ts))
structure SdAt(o:Fo)(Z:Hp)(s:Sd)(v:Sv):Prop where
 A:FlAt Z o.fm s.x s.d s.pa s.ma v.ra s.pds s.mks v.rws v.U v.B (k8 (o.f v.U v.B) o.rh.length v.B.length)
 hm:Z s.m=some (.L [.ref s.P,.ref s.T,.ref v.R])
 hP:Z s.P=some (.L (v.ps.map .ref))
 hT:Z s.T=some (.L (s.ts.map .ref))
 hR:Z v.R=some (.L (v.rs.map .ref))
 pS:PAt Z v.ps (v.S.map (·.map tS))
 tB:PAt Z s.ts (v.B.map (·.map .bool))
 rR:PAt Z v.rs (k8 (o.f v.U v.B) o.rh.length v.B.length)
 Y:Yrs o.C v.U v.B
 n1:1<=v.B.length
 pm:PmU v.S v.U
 k4:∀ u∈v.U,∀ p∈u,p.1∈o.W4
structure AllR(s:Sd)(v:Sv)(q:Addr->Prop):Prop where
 x:q s.x
 pa:q s.pa
 ma:q s.ma
 T:q s.T
 ra:q v.ra
 R:q v.R
 rws:∀ a∈v.rws,q a
 rs:∀ a∈v.rs,q a
 ps:∀ a∈v.ps,q a
theorem AllR.and{s:Sd}{v:Sv}{q:Addr->Prop}(h:AllR s v q)(h':AllR s v q')(k:∀ a,q a->q' a->r a):AllR s v r:=⟨k _ h.x h'.x,k _ h.pa h'.pa,k _ h.ma h'.ma,k _ h.T h'.T,k _ h.ra h'.ra,k _ h.R h'.R,λa M=>k _ (h.rws a M) (h'.rws a M),λa M=>k _ (h.rs a M) (h'.rs a M),λa M=>k _ (h.ps a M) (h'.ps a M)⟩
theorem AllR.imp{s:Sd}{v:Sv}{q:Addr->Prop}(h:AllR s v q)(k:∀ a,q a->q' a):AllR s v q':=⟨k _ h.x,k _ h.pa,k _ h.ma,k _ h.T,k _ h.ra,k _ h.R,λa M=>k _ (h.rws a M),λa M=>k _ (h.rs a M),λa M=>k _ (h.ps a M)⟩
structure AllW(s:Sd)(q:Addr->Prop):Prop where
 d:q s.d
 m:q s.m
 P:q s.P
 pds:∀ a∈s.pds,q a
 mks:∀ a∈s.mks,q a
 ts:∀ a∈s.ts,q a
theorem Q9{s:Sd}{q:Addr->Prop}(h:∀ a∈s.W,q a):AllW s q:=⟨h _ (.head _),h _ (.tail _ (.head _)),h _ (.tail _ (.tail _ (.head _))),λa M=>h _ (.tail _ (.tail _ (.tail _ (bu _ M)))),λa M=>h _ (.tail _ (.tail _ (.tail _ (bk _ (bu _ M))))),λa M=>h _ (.tail _ (.tail _ (.tail _ (bk _ (bk _ M)))))⟩
theorem AllW.all{s:Sd}{q:Addr->Prop}(h:AllW s q):∀ a∈s.W,q a:=λa ha=>by
 k_extra"e"
 ·rw[e];exact h.d
 k_extra"e"
 ·rw[e];exact h.m
 k_extra"e"
 ·rw[e];exact h.P
 k_extra"cj"
 ·exact h.pds a e
 k_extra"cA"
 ·exact h.mks a e
 ·exact h.ts a e
theorem PAt.kp(h:PAt Z cs u)(k:∀ c∈cs,∀ o,Z c=some o->Z' c=some o):PAt Z' cs u:=⟨h.len,λE C=>k _ (aL E) _ (h.at' E C)⟩
theorem DsAt.kp(h:DsAt Z cs U)(k:∀ c∈cs,∀ o,Z c=some o->Z' c=some o):DsAt Z' cs U:=⟨h.len,λE C=>k _ (aL E) _ (h.at' E C)⟩
def Kp(Z Z':Hp)(a:Addr):Prop:=∀ o,Z a=some o->Z' a=some o
theorem FlAt.kp{E D:Addr}(A:FlAt Z fm x d E D C w u y U T R)(Za:Kp Z Z' x)(S:Kp Z Z' d)(L:Kp Z Z' E)(X:Kp Z Z' D)(I:Kp Z Z' C)(F:∀ c∈w,Kp Z Z' c)(H:∀ c∈u,Kp Z Z' c)(M:∀ c∈y,Kp Z Z' c):FlAt Z' fm x d E D C w u y U T R:=
 ⟨Za _ A.hx,S _ A.hd,L _ A.hp,X _ A.hm,I _ A.hr,A.pd.kp F,A.mb.kp H,A.ro.kp M,A.np,A.nm,A.a1,A.a2,A.a3,A.a4⟩
theorem SdAt.kp{o:Fo}{s:Sd}{v:Sv}(H:SdAt o Z s v)(w:AllW s (Kp Z Z'))(r:AllR s v (Kp Z Z')):SdAt o Z' s v:=
 ⟨H.A.kp r.x w.d r.pa r.ma r.ra w.pds w.mks r.rws,w.m _ H.hm,w.P _ H.hP,r.T _ H.hT,r.R _ H.hR,H.pS.kp r.ps,H.tB.kp w.ts,H.rR.kp r.rs,H.Y,H.n1,H.pm,H.k4⟩
def Dm(Z:Hp)(a:Addr):Prop:=∃ o,Z a=some o
theorem PAt.dm(h:PAt Z cs c):∀ a∈cs,Dm Z a:=λa M=>by refine a7 (h.has M) λx N e=>?_;exact⟨_,e⟩
theorem DsAt.dm(h:DsAt Z cs U):∀ a∈cs,Dm Z a:=λa M=>cu λq=>h.no (b:=a) (by
 cases e:Z a with
 | none=>rfl
 | some o=>exact absurd ⟨o,e⟩ q) M
theorem SdAt.dW{o:Fo}{s:Sd}{v:Sv}(H:SdAt o Z s v):AllW s (Dm Z):=⟨⟨_,H.A.hd⟩,⟨_,H.hm⟩,⟨_,H.hP⟩,H.A.pd.dm,H.A.mb.dm,H.tB.dm⟩
theorem SdAt.dR{o:Fo}{s:Sd}{v:Sv}(H:SdAt o Z s v):AllR s v (Dm Z):=⟨⟨_,H.A.hx⟩,⟨_,H.A.hp⟩,⟨_,H.A.hm⟩,⟨_,H.hT⟩,⟨_,H.A.hr⟩,⟨_,H.hR⟩,H.A.ro.dm,H.rR.dm,H.pS.dm⟩
structure SepW(s:Sd):Prop where
 mP:s.m≠s.P
 m1:s.m∉s.mks
 m2:s.m∉s.ts
 p1:s.P∉s.mks
 p2:s.P∉s.ts
 mt:∀ c∈s.mks,c∉s.ts
 nt:s.ts.Nodup
structure Kt where
 fl:Addr
 ml:Addr
 hl:Addr
 pt:Addr
 pl:Addr
 tl:Addr
 wl:Addr
 rw:Addr
 s:Bool->Sd
 ws:List Str
 O:List Int
def Kt.cs(K:Kt):List Addr:=[K.fl,K.ml,K.pt,K.pl,K.tl,K.wl,K.rw]
structure KtAt(o:Fo)(K:Kt)(Z:Hp):Prop where
 hf:Z K.fl=some (.L [.ref (K.s false).x,.ref (K.s true).x])
 hm:Z K.ml=some (.L [.ref (K.s false).m,.ref (K.s true).m])
 hp:Z K.pt=some (.L [.ref K.pl,.ref K.tl,.int o.C,.int o.ow,.ref K.wl])
 hl:Z K.pl=some (.L o.rh)
 ht:Z K.tl=some (.L o.tb)
 hw:Z K.wl=some (.L (K.ws.map .str))
 hr:Z K.rw=some (.L (K.O.map .int))
structure KtC(o:Fo)(K:Kt):Prop where
 F:FG o.rh o.tb o.C o.ow o.rk
 tp:Tp o.rh K.O
 ol:K.O.length=o.rh.length
 w5:5<=K.ws.length
 w8:K.ws.length<=8
 ww:∀ x∈K.ws,m8 x=true
 e4:o.W4=K.ws.take 4
def Out(K:Kt)(a:Addr):Prop:=a∉(K.s false).W/\a∉(K.s true).W/\a≠K.hl
structure Hd(Z:Hp)(hl:Addr)(qs:List Addr)(q:Addr->Prop):Prop where
 hh:Z hl=some (.L (qs.map .ref))
 pr:∀ a∈qs,∃ b c l,Z a=some (.L [.ref b,.ref c])/\Z b=some (.L l)/\Z c=some (.L l)/\Fl l/\q a/\q b/\q c
theorem Hd.kp{q:Addr->Prop}(H:Hd Z hl qs q)(Za:Kp Z Z' hl)(S:∀ a,q a->Kp Z Z' a):Hd Z' hl qs q:=⟨Za _ H.hh,λa M=>by
 refine uh (H.pr a M) λb c l E C w f F u P=>?_
 exact⟨b,c,l,S a F _ E,S b u _ C,S c P _ w,f,F,u,P⟩⟩
theorem Hd.imp{q:Addr->Prop}(H:Hd Z hl qs q)(h:∀ a,Dm Z a->q a->q' a):Hd Z hl qs q':=⟨H.hh,λa M=>by
 refine uh (H.pr a M) λb c l E C u f F w P=>?_
 exact⟨b,c,l,E,C,u,f,h a ⟨_,E⟩ F,h b ⟨_,C⟩ w,h c ⟨_,u⟩ P⟩⟩
structure Wd(o:Fo)(K:Kt)(q:Addr->Prop)(Z:Hp)(v:Bool->Sv)(qs:List Addr):Prop where
 kt:KtAt o K Z
 sd:∀ b,SdAt o Z (K.s b) (v b)
 hd:Hd Z K.hl qs (λa=>Out K a/\q a)
 nz:NZ Z
 oc:∀ a∈K.cs,Out K a/\q a
 ro:∀ b,AllR (K.s b) (v b) (λa=>Out K a/\q a)
 wo:∀ b,AllW (K.s b) q
 qh:q K.hl
 dj:∀ b,∀ a∈(K.s b).W,a∉(K.s !b).W
 hw:∀ b,K.hl∉(K.s b).W
 sp:∀ b,SepW (K.s b)
 ql:qs.length<=9000
section
variable{o:Fo}{K:Kt}{q:Addr->Prop}{v:Bool->Sv}
theorem KtAt.kp(H:KtAt o K Z)(h:∀ a∈K.cs,Kp Z Z' a):KtAt o K Z':=
 ⟨h _ (.head _) _ H.hf,h _ (.tail _ (.head _)) _ H.hm,h _ (.tail _ (.tail _ (.head _))) _ H.hp,h _ (.tail _ (.tail _ (.tail _ (.head _)))) _ H.hl,h _ (.tail _ (.tail _ (.tail _ (.tail _ (.head _))))) _ H.ht,h _ (.tail _ (.tail _ (.tail _ (.tail _ (.tail _ (.head _)))))) _ H.hw,h _ (.tail _ (.tail _ (.tail _ (.tail _ (.tail _ (.tail _ (.head _))))))) _ H.hr⟩
theorem Wd.kp(W:Wd o K q Z v qs)(h:∀ a,q a->Kp Z Z' a)(nz:NZ Z'):Wd o K q Z' v qs:=
 ⟨W.kt.kp λa M=>h a (W.oc a M).2,λb=>(W.sd b).kp (Q9 λa M=>h a ((W.wo b).all a M)) ((W.ro b).imp λa M=>h a M.2),W.hd.kp (h _ W.qh) λa M=>h a M.2,nz,W.oc,W.ro,W.wo,W.qh,W.dj,W.hw,W.sp,W.ql⟩
theorem Wd.dm(W:Wd o K q Z v qs)(h:∀ a,Dm Z a->q a->q' a):Wd o K q' Z v qs:=
 ⟨W.kt,W.sd,W.hd.imp λa d p=>⟨p.1,h a d p.2⟩,W.nz,λa ha=>⟨(W.oc a ha).1,h a (by
  k_extra"e"
  ·rw[e];exact⟨_,W.kt.hf⟩
  k_extra"e"
  ·rw[e];exact⟨_,W.kt.hm⟩
  k_extra"e"
  ·rw[e];exact⟨_,W.kt.hp⟩
  k_extra"e"
  ·rw[e];exact⟨_,W.kt.hl⟩
  k_extra"e"
  ·rw[e];exact⟨_,W.kt.ht⟩
  k_extra"e"
  ·rw[e];exact⟨_,W.kt.hw⟩
  ·rw[aA.mp ha];exact⟨_,W.kt.hr⟩) (W.oc a ha).2⟩,λb=>(W.ro b).and (W.sd b).dR λa p d=>⟨p.1,h a d p.2⟩,λb=>Q9 λa ha=>h a ((W.sd b).dW.all a ha) ((W.wo b).all a ha),h _ ⟨_,W.hd.hh⟩ W.qh,W.dj,W.hw,W.sp,W.ql⟩
theorem Wd.out(W:Wd o K q Z v qs)(M:Z a=none):Out K a:=by
 have k:∀ {b},Dm Z b->a≠b:=fun{b} d e=>by refine d4 d λU c=>?_;rw[<- e,M] at c;cases c
 exact⟨λh=>k ((W.sd false).dW.all a h) rfl,λh=>k ((W.sd true).dW.all a h) rfl,k ⟨_,W.hd.hh⟩⟩
end
theorem PAt.repl(h:PAt Z cs u)(Y:Z b=some (.L x)):PAt Z (cs.set y b) (u.set y x):=
 ⟨by rw[bZ,bZ];exact h.len,fun{j c z} E C=>by
  rw[fU] at E C;by_cases q:y=j
  ·rw[if_pos q] at E C
   by_cases R:y<cs.length
   ·rw[if_pos R] at E
    k_extra"dd";exact Y
   ·rw[if_neg R] at E;cases E
  ·rw[if_neg q] at E C
   exact h.at' E C⟩
theorem PmU.set(h:PmU S U){s:List (Str×Int)}(c:s.Perm u)(M:s.Pairwise ltP):PmU (S.set y s) (U.set y u):=
 ⟨by rw[bZ,bZ];exact h.len,fun{j a b} E C=>by
  rw[fU] at E C;by_cases q:y=j
  ·rw[if_pos q] at E C
   by_cases R:y<S.length
   ·rw[if_pos R] at E
    k_extra"dd";exact⟨c,M⟩
   ·rw[if_neg R] at E;cases E
  ·rw[if_neg q] at E C
   exact h.pm E C⟩
structure DeedOK(g:G)(o:Fo)(s:Sd)(v:Sv)(dd:V)(U':List (List (Str×Int)))(B':List (List Bool)):Prop where
 Y:Yrs o.C U' B'
 len:B'.length=v.B.length
 k4:∀ u∈U',∀ p∈u,p.1∈o.W4
 noted:∀ {D:Nat} {τ:Hp} {Q:VP} {X:XP},1<=D->SdAt o τ s v->NZ τ->(∀ Z' ps' S',e9 (s.P::s.ts) τ Z'->NZ Z'->Z' s.P=some (.L (ps'.map .ref))->PAt Z' ps' (S'.map (·.map tS))->PAt Z' s.ts (B'.map (·.map .bool))->PmU S' U'->(∀ a∈ps',a∈v.ps∨τ a=none)->Q .none Z')->d8 g D true "_law_noted" [.ref s.P,.ref s.T,dd] τ Q X
 told:∀ {D:Nat} {τ:Hp} {Q:VP} {X:XP},18<=D->FlAt τ o.fm s.x s.d s.pa s.ma v.ra s.pds s.mks v.rws v.U v.B (k8 (o.f v.U v.B) o.rh.length v.B.length)->NZ τ->(∀ fa Z' c,c∈s.pds++s.mks->Aft τ o.rh o.tb o.C o.ow o.rk s.x s.d s.pa s.ma s.pds s.mks (o.f v.U v.B) c U' B' fa Z'->Q (.ref fa) Z')->d8 g D true "_law_told" [.ref s.x,dd] τ Q X
section
variable{g:G}{o:Fo}{s:Sd}{v:Sv}
theorem SdAt.nd(H:SdAt o Z s v):∀ u∈v.U,(u.map (·.1)).Nodup:=λu L=>E8▸(H.Y.gp u L).nd
theorem SdAt.u4(H:SdAt o Z s v)(c:o.W4.length<=4):∀ u∈v.U,u.length<=4:=λu L=>aj (Bg (H.nd u L) (H.k4 u L)) c
theorem Lq(N:Nm g)(F:FG o.rh o.tb o.C o.ow o.rk)(w4:o.W4.length<=4)(T:∀ x∈o.W4,m8 x=true)(H:SdAt o Z s v)(out:AllR s v (·∉s.W))(sp:SepW s)(hy:y<v.B.length)(Za:w∈o.W4)(i0 : -1000000000<=i)(i1:i<=1000000000):∃ U' B',DeedOK g o s v (.tup [.str "put",.int y,.str w,.int i]) U' B':=by
 have C:y<v.U.length:=by rw[H.Y.lu];exact hy
 have R:y<v.S.length:=by rw[H.pm.len];exact C
 have hu:=ak C;have U:=ak R;generalize v.U[y]'C=u at hu;generalize v.S[y]'R=I at U;have mu:=aL hu;have K:=H.nd u mu;obtain⟨E,pm2⟩:=H.pm.pm U hu;have ns:(I.map (·.1)).Nodup:=(E.map _).nodup_iff.mpr K
 have kk:∀ p∈B5 u w i,p.1∈o.W4:=λp hp=>by
  rcases yw K hp with q | q
  ·exact H.k4 u mu p q
  ·rw[q];exact Za
 have P:=(H.Y.gp u mu).put (T w Za) i0 i1;have l4:(B5 u w i).length<=4:=aj (Bg (E8▸P.nd) kk) w4;have Y':Yrs o.C (v.U.set y (B5 u w i)) v.B:=⟨by rw[bZ];exact H.Y.lu,λL hu'=>by
  rcases dq hu' with q | q
  ·exact H.Y.gp L q
  ·rw[q];exact P,λL hu'=>by
  rcases dq hu' with q | q
  ·exact H.Y.uz L q
  ·rw[q];exact aj l4 (by decide),H.Y.tz,H.Y.zz⟩
 have pw:(B5 u w i).Perm ((I.filter λp=>p.1 != w)++[(w,i)]):=(vm K).trans ((E.filter _).symm.append_right _)
 have zz:=H.Y.zz;refine⟨_,v.B,Y',rfl,λL hu'=>?_,fun{D τ Q X} hD H nz h=>?_,fun{D τ Q X} hD A nz h=>?_⟩
 ·rcases dq hu' with q | q
  ·exact H.k4 L q
  ·rw[q];exact kk
 ·refine a7 (H.pS.get (j:=y) (x:=I.map tS) (by rw[aB,U];rfl)) λa ha Ja=>?_
  have lp:v.ps.length=v.S.length:=by rw[H.pS.len,aq]
  refine Yl N hD nz H.hP ha Ja (by rw[E.length_eq];exact H.u4 w4 u mu) (zg ns) (by rw[<- pw.length_eq];exact l4) (by rw[lp,H.pm.len,H.Y.lu];exact rU zz) λM b S Y k2 k3 k4 k5 k6 k7=>?_
  have e:(v.S.set y S).map (·.map tS)=(v.S.map (·.map tS)).set y (S.map tS):=jE
  refine h M (v.ps.set y b) (v.S.set y S) (λc o' q e'=>Y c o' (j9 λz=>q (by rw[z];exact .head _)) e') k2 k3 (e▸(H.pS.stay Y λc O=>j9 λz=>out.ps c O (by rw[z];exact .tail _ (.tail _ (.head _)))).repl k4) (H.tB.stay Y λc O=>j9 λz=>sp.p2 (by rw[<- z];exact O)) (H.pm.set (k6.trans pw.symm) k7) λc O=>?_
  rcases dq O with q | q
  ·exact .inl q
  ·rw[q];exact .inr k5
 ·k_extra"bm"
  k_extra"w";refine A.m (by k_extra"#") ?_
  have t1:f9 (.int y) 0 ((v.B.length:Int)-1)=true:=r8 (by exact C1) (by exact Ah hy)
  have t2:(x4 (.str w)&&f9 (.int i) (0-1000000000) 1000000000)=true:=by rw[r8 (i:=i) (by exact i0) i1,Bool.and_true];exact T w Za
  refine vh p.N (p.dd (by decide)) F A nz H.Y.lu zz (Atm.int _ |>.cld _).ok (.str (vf (T w Za))) (Atm.int _ |>.cld _).ok (λq=>r7 q t1) (λf q=>r7 q t2) λf f y' S i' L c e1 e2 e3 f f f hu' O=>?_
  k_extra"cB";obtain rfl:w=S:=V.str.inj e2;clear e2;obtain rfl:i=i':=V.int.inj e3;clear e3;obtain rfl:u=L:=d7 (hu.symm.trans hu');exact⟨H.Y.uz u mu,Y',λfa M z=>p.h (h fa M c (bu _ (aL O)) z)⟩
theorem cw2(N:Nm g)(F:FG o.rh o.tb o.C o.ow o.rk)(H:SdAt o Z s v)(out:AllR s v (·∉s.W))(sp:SepW s){c:Nat}{b:Bool}(I:y<v.B.length)(O:(c:Int)<o.C):∃ U L,DeedOK g o s v (.tup [.str "take",.int y,.int c,.bool b]) U L:=by
 have R:=ak I;generalize v.B[y]'I=t at R;have P:=H.Y.tz t (aL R);have S:=H.Y.zz;have el:(v.B.set y (t.set c b)).length=v.B.length:=bZ;refine⟨v.U,v.B.set y (t.set c b),⟨by rw[el];exact H.Y.lu,H.Y.gp,H.Y.uz,λK E=>?_,by rw[el];exact S⟩,el,H.k4,fun{D τ Q X} hD H nz h=>?_,fun{D τ Q X} hD A nz h=>?_⟩
 ·rcases dq E with q | q
  ·exact H.Y.tz K q
  ·rw[q,bZ];exact P
 ·refine a7 (H.tB.get (j:=y) (x:=t.map .bool) (by rw[aB,R];rfl)) λa M Ja=>?_
  have w:=aL M;have e:(v.B.set y (t.set c b)).map (·.map V.bool)=(v.B.map (·.map V.bool)).set y ((t.set c b).map .bool):=jE
  have Y:a∈s.W:=.tail _ (.tail _ (.tail _ (bk _ (bk _ w))));refine bB9 N hD H.hT M Ja (PK O P) (sG P F.c8) (aj (bN (aX I S)) (by decide)) (h _ v.ps v.S (e9.upd (.tail _ w)) (nz.upd Q5) (p8 H.hP λz=>sp.p2 (by rw[z];exact w)) ((H.pS.stay (e9.upd (A:=[a]) (.head _))) λc O=>j9 λz=>out.ps c O (by rw[z];exact Y)) (e▸H.tB.set sp.nt M _) H.pm λc O=>.inl O)
 ·k_extra"bm"
  k_extra"w";refine A.m (by k_extra"#") ?_
  have t2:=r8 (C1) (cI O);refine rN p.N (p.dd (by decide)) F A nz H.Y (Atm.int _ |>.cld _).ok (Atm.int _ |>.cld _).ok (λq=>r7 q (r8 (C1) (Ah I))) (λf q=>r7 q t2) λf f y' T K a e1 C E M Za u z=>?_
  k_extra"cB";obtain rfl:c=T:=Int.ofNat.inj (V.int.inj C);clear C;obtain rfl:t=K:=d7 (R.symm.trans E);exact p.h (h Za u a (bk _ (aL M)) z)
theorem bu4(N:Nm g)(F:FG o.rh o.tb o.C o.ow o.rk)(w:o.W4.length<=4)(T:∀ x∈o.W4,m8 x=true)(H:SdAt o Z s v)(out:AllR s v (·∉s.W))(sp:SepW s)(G:GoodD v.B.length o.C o.W4 dd):∃ q c,DeedOK g o s v dd q c:=by
 cases G with
 | put I Za u Y=>exact Lq N F w T H out sp I Za u Y
 | take I O=>exact cw2 N F H out sp I O
end
theorem qW(f:Fl l)(c:1<=d){Q:VP}(h:Q (.bool false) Z):EqL true d l l Z Q:=by
 have e:=SeqAt.eqvAll_refl _ (G1 f.fl);refine EqL.mk f.fl f.fl (by have:=f.de;rw[lV];lia) ?_
 rw[e];exact h
theorem Fl.prs{u:List (Str×Int)}(h:∀ p∈u,m8 p.1=true):Fl (u.map tS):=.of λx hx=>by
 refine a7 (aM.mp hx) λc hc qa=>?_;subst qa
 refine⟨?_,aV 1⟩;show(PyData.strOk c.1&&(true&&true))=true;rw[(yP (h c hc)).1.strOk];rfl
theorem Fl.bools{T:List Bool}:Fl (T.map .bool):=.of λx U=>by refine a7 (aM.mp U) λc N Ja=>?_;subst Ja;exact⟨rfl,aY _⟩
theorem Fl.row:Fl (rwV f m y):=.of λx U=>by unfold rwV at U;refine a7 (aM.mp U) λc N Ja=>?_;subst Ja;exact⟨rfl,aY _⟩
theorem FJ:nzL (rwV f m y)=true:=v4 λx U=>by unfold rwV at U;refine a7 (aM.mp U) λc N Ja=>?_;subst Ja;rfl
section
variable{g:G}{o:Fo}{K:Kt}{q r:Addr->Prop}{v:Bool->Sv}{Q:V->Hp->Prop}
theorem Wd.imp(W:Wd o K q Z v qs)(h:∀ a,q a->r a):Wd o K r Z v qs:=W.dm λa N=>h a
theorem Wd.hl(W:Wd o K q Z v qs)(b:Bool):∀ a∈(K.s b).W,a≠K.hl:=λa M e=>W.hw b (by rw[<- e];exact M)
theorem nU(N:Nm g)(hD:1<=D)(W:Wd o K q Z v qs)(hq:∀ a,q a->a≠u)(of:Out K u)(T:Z u=some (.L l))(fl:Fl l)(lz:l.length<=9000)(L:nzL l=true)(x:∀ a,q a->r a)(rf:r u)(S:∀ a,Z a=none->r a)(A:qs.length<9000)
  (h:∀ Z' P,Wd o K r Z' v P->e9 [K.hl,u] Z Z'->P.length<=qs.length+1->Q .none Z'):d8 g D true "_law_kept" [.ref K.hl,.ref u,.int k] Z Q X:=by
 refine Th N hD W.hd.hh T (by rw[aq];exact aj (bN A) (by decide)) lz L (λb a Y M=>?_) λH I=>?_
 ·have Ja:=j4 (Sub.upd Y) M
  have O:=W.out Y;have w:=W.out Ja;have s1:Sub Z (upd (upd Z b (.L l)) a (.L [.ref u,.ref b])):=(Sub.upd Y).trans (Sub.upd M);have kp:∀ {c},c≠K.hl->Kp Z (upd (upd (upd Z b (.L l)) a (.L [.ref u,.ref b])) K.hl (.L (qs.map .ref++[.ref a]))) c:=λhc U e=>by rw[e8 _ _ hc];exact s1 _ _ e
  have W:=W.imp x;have C:∀ {c},Out K c->c≠K.hl:=λh=>h.2.2
  refine h _ (qs++[a]) ⟨W.kt.kp λc hc=>kp (C (W.oc c hc).1),λE=>(W.sd E).kp (Q9 λc hc=>kp (W.hl E c hc)) ((W.ro E).imp λc hc=>kp (C hc.1)),⟨by rw[d6,aN];rfl,λc hc=>?_⟩,((W.nz.upd (o:=.L l) L).upd rfl).upd ?_,W.oc,W.ro,W.wo,W.qh,W.dj,W.hw,W.sp,by rw[aK];exact A⟩ (λc U hc e=>?_) (by rw[aK];exact aV _)
  ·k_extra"bO"
   ·exact uh (W.hd.pr c z) λE Za H e1 e2 e3 f F R y=>⟨E,Za,H,kp (C F.1) _ e1,kp (C R.1) _ e2,kp (C y.1) _ e3,f,F,R,y⟩
   ·rw[aA.mp z]
    refine⟨u,b,l,?_,kp (C of) _ T,?_,fl,⟨w,S a Ja⟩,⟨of,rf⟩,⟨O,S b Y⟩⟩
    ·rw[e8 _ _ (C w)];exact d6 _ _ _
    ·rw[e8 _ _ (C O)];exact i4 (d6 _ _ _) M
  ·have:=D3 (l:=qs++[a]);rw[aN] at this;exact this
  ·exact kp (λz=>hc (by rw[z];exact .head _)) _ e
 ·refine h _ qs ((W.kp (λa M U e=>by rw[e8 _ _ (hq a M)];exact e) (W.nz.upd (o:=.L H) I)).imp x) (e9.upd (.tail _ (.head _))) (gn _)
end
section
variable{g:G}{n':Nat}{QQ:VP}{K:KT}{s:List V}{J:Lo}
theorem xj{B:KT}{E:List Nat}(p:Pk pq tab g n' QQ XX cx){f:Nat->Nat->Int}(C:Z R=some (.L (rs.map .ref)))(H:PAt Z rs (k8 f m n))(P:j<m)(S:n<=8)
  (I:∀ T,Pb pq tab n' T->∀ a l x,Z a=some (.L l)->l[j]?=some x->(∀ w,T.Q (.ret x) w Z)->B T [] (some (.ref a)::s6 J E) Z)
  (h:∀ b,Z b=none->K cx (.ref b::s) J (upd Z b (.L (((bh n).map λy=>f y j).map .int)))):CLoop B K E (rs.map .ref) (λZ=>Z R=some (.L (rs.map .ref))) cx s J Z:=by
 have A:rs.length=n:=by rw[H.len,G5]
 refine CLoop.g p (λu F Z'=>Z=Z'/\∃ d1 d2,rs=d1++d2/\u=d2.map .ref/\F=((bh d1.length).map λy=>f y j).map .int) (by rw[aq];exact wk S A) ⟨rfl,[],rs,rfl,rfl,rfl⟩ (λcx p v u F Ja L=>?_) ?_
 ·clear L;rintro _ hh;k_extra"8"
  refine⟨C,?_⟩;cases d2 with
  | nil=>cases e2
  | cons c d2=>
   k_extra"ab";subst qb
   have hc:rs[d1.length]?=some c:=by rw[e1,cH (aV _),gG];rfl
   have q:=(aF.mp hc).1;exact I cx p c _ _ (H.at' hc (G3 (A▸q))) (I0 P) λw=>Ja ⟨rfl,d1++[c],d2,by rw[e1,bH];rfl,rfl,by rw[aK,gf,dY,aN,aN];rfl⟩
 ·rintro F _ hh;k_extra"8"
  refine⟨C,λa M=>?_⟩
  k_extra"F"
  rw[bI] at e1;have:=h a M;rw[<- A,e1] at this;exact this
end
section
variable{g:G}{o:Fo}{K:Kt}{v:Bool->Sv}{Q:V->Hp->Prop}
theorem Cr{n:Int}(h:0<n):∃ y:Nat,a%n=y/\(y:Int)<n:=by
 exact d4 (bM (dh a (iM h))) λy e=>⟨y,e,e▸dH a h⟩
theorem aX3(N:Nm g)(hD:4<=D)(kc:KtC o K)(W:Wd o K (·≠st) Z v qs)(E:Dm Z st)(b:Bool){Ja:Int}(ql:qs.length<8990)
  (h:∀ Z' P,Wd o K (·≠st) Z' v P->e9 [K.hl] Z Z'->P.length<=qs.length+2->Q (.bool true) Z') :
  d8 g D true "_law_looked" [.ref (K.s b).x,.ref K.hl,.int Ja,.ref (K.s b).m,.int o.ow] Z Q X:=by
 refine bd N Oa (by k_extra"b") hD λcx p=>?_
 have H:=W.sd b;have F:=kc.F;have hm:=H.hm;have hP:=H.hP;have hR:=H.hR;have hT:=H.hT;have zz:=H.Y.zz;have n1:=H.n1;k_extra"aZ"
 obtain⟨y,ey,hy⟩:=Cr (a:=Ja / 4) (n:=(((v b).ps.map V.ref).length:Int)) (by exact QM n1 lp)
 have hy:y<(v b).B.length:=by exact Am lp hy
 refine a7 (H.rR.get (G3 hy)) λa ea ha=>?_
 have qa:((v b).rs.map V.ref)[y]?=some (.ref a):=by rw[aB,ea];rfl
 have w:(rwV (o.f (v b).U (v b).B) o.rh.length y).length=o.rh.length:=Y5;have l1:=F.l1;have L:=F.l40;obtain⟨l,el,hl⟩:=Cr (a:=Ja / 64) (n:=((rwV (o.f (v b).U (v b).B) o.rh.length y).length:Int)) (by exact NP w l1)
 have hl:l<o.rh.length:=by exact Am w hl
 have t1:f9 (.int (Ja / 4%(((v b).ps.map V.ref).length:Int))) 0 (((v b).B.length:Int)-1)=true:=by rw[ey];exact r8 (by exact C1) (by exact yV lp (by assumption))
 have t2:f9 (.int (Ja / 64%((rwV (o.f (v b).U (v b).B) o.rh.length y).length:Int))) 0 ((o.rh.length:Int)-1)=true:=by rw[el];exact r8 (by exact C1) (by exact yV w (by assumption))
 have fin:=h Z qs W e9.refl (cC _ _);k_extra"aa"
 k_extra"w"
 ·refine H.A.m (by k_extra"#") (qJ p.N (p.dd (by decide)) H.A zz L (Atm.int _ |>.cld _).ok (Atm.int _ |>.cld _).ok (λq=>r7 q t1) (λi q=>r7 q t2) λi i y' l' e1 e2=>?_)
  k_extra"ar";obtain rfl:l=l':=Int.ofNat.inj (el.symm.trans (V.int.inj e2));k_extra"de"
  k_extra"aa"
  k_extra"w";exact i8 l _ el (I0 hl) (by exact aj (bN (aQ.mp (by assumption))) (aj (aG w) (aj L (by decide)))) (p.b (beq_self_eq_true _) fin)
 ·refine H.A.m (by k_extra"#") (Bx p.N (p.dd (by decide)) H.A zz L (Atm.int _ |>.cld _).ok (λq=>r7 q t1) λi y' fa e1 i I=>?_)
  k_extra"ar";k_extra"aa"
  k_extra"w";refine qW Fl.row (p.dd (by decide)) ?_
  k_extra"w";have fs:fa≠st:=λe=>by refine d4 E λU z=>?_;rw[<- e,I] at z;cases z
  have s1:Sub Z (upd Z fa (.L (rwV (o.f (v b).U (v b).B) o.rh.length y))):=Sub.upd I;have W2:=(W.dm (q':=λc=>c≠st/\c≠fa) λc d q=>⟨q,λe=>by refine d4 d λU z=>?_;rw[e,I] at z;cases z⟩).kp (λc i U e=>s1 _ _ e) (W.nz.upd (o:=.L (rwV (o.f (v b).U (v b).B) o.rh.length y)) FJ)
  refine nU p.N (p.dd (by decide)) W2 (λc q=>q.2) (W.out I) (d6 Z fa (.L (rwV (o.f (v b).U (v b).B) o.rh.length y))) Fl.row (by exact aj (aG w) (aj L (by decide))) FJ (λc q=>q.1) fs (λc q e=>by refine d4 E λU z=>?_;rw[e,s1 _ _ z] at q;cases q) (by exact Ff ql) λZ' P W' S' q'=>?_
  k_extra"w";refine p.h (h Z' P W' (λc U q e=>S' c U (λz=>?_) (s1 _ _ e)) (by exact gM q'))
  k_extra"Y"
  ·k_extra"cH"
  ·rw[aA.mp z,I] at e;cases e
 ·refine H.A.m (by k_extra"#") (Ge p.N (p.dd (by decide)) F H.A zz ?_)
  k_extra"de"
  k_extra"w";refine xj p hR H.rR (j:=o.ow.toNat) (by have:=F.o1;have:=F.o0;lia) zz (λcx p c l x hc hx k=>?_) λc hc=>?_
  ·k_extra"w"
   exact i8 _ _ (bQ F.o0).symm hx (by have:=F.o1;have:=F.o0;exact BX L (by assumption)) (k _)
  ·refine SumL.mk _ (d6 _ _ _) (p.r (Sub.upd hc) ?_)
   rw[beq_self_eq_true];exact fin
 ·refine H.A.m (by k_extra"#") (Gb p.N (p.dd (by decide)) H.A H.Y F.c8 (H.u4 (by rw[kc.e4,eZ];exact cB ..)) (Atm.int _ |>.cld _).ok (λq=>r7 q t1) λi y' u t ps M O e1 hu ht Za h2 hp1 hp2=>?_)
  k_extra"ar";have S:y<(v b).S.length:=by rw[H.pm.len];exact(aF.mp hu).1
  have hs:=ak S;generalize (v b).S[y]'S=sq at hs;refine d5 (H.pm.pm hs hu) λm1 m2=>?_
  obtain rfl:ps=sq:=Jh hp1 hp2 m1 m2;obtain⟨a1,q1,w1⟩:=H.pS.get (j:=y) (x:=ps.map tS) (by rw[aB,hs];rfl)
  obtain⟨a2,q2,w2⟩:=H.tB.get (j:=y) (x:=t.map .bool) (by rw[aB,ht];rfl)
  have s1:Sub Z (upd (upd Z M (.L (ps.map tS))) O (.L (t.map .bool))):=(Sub.upd Za).trans (Sub.upd h2);have f1:=i4 (o:=.L (t.map .bool)) (d6 Z M (.L (ps.map tS))) h2;have R:=d6 (upd Z M (.L (ps.map tS))) O (.L (t.map .bool));have Y:Z O=none:=j4 (Sub.upd Za) h2;have nb:M≠O:=j7 (d6 Z M (.L (ps.map tS))) h2;have C:=(W.nz.upd (a:=M) (M8 (u:=ps))).upd (a:=O) (Q5 (T:=t));generalize upd (upd Z M (.L (ps.map tS))) O (.L (t.map .bool))=τ at s1 f1 R C ⊢;have g2:=s1 _ _ w2;have hm:=s1 _ _ hm;have hP:=s1 _ _ hP;have hT:=s1 _ _ hT;have mu:=aL hu;have fp:Fl (ps.map tS):=Fl.prs λq hq=>(H.Y.gp u mu).wd q (m1.mem_iff.mp hq)
  have pz:ps.length<=1000:=by rw[m1.length_eq];exact H.Y.uz u mu
  have c8:=F.c8;have ds:∀ {c},τ c=none->c≠st:=fun{c} q e=>by refine d4 E λU z=>?_;rw[e,s1 _ _ z] at q;cases q
  have ns:∀ {c},Z c=none->c≠st:=fun{c} q e=>by refine d4 E λU z=>?_;rw[e,z] at q;cases q
  k_extra"w";refine i8 y _ ey (by rw[aB,q1];rfl) (by exact Y4 zz lp (by assumption)) ?_
  k_extra"w";refine i8 y _ ey (by rw[aB,q2];rfl) (by exact Y4 zz lp (by assumption)) ?_
  refine EqT.refs M O a1 a2 _ _ rfl rfl f1 R (s1 _ _ w1) g2 fp.fl Fl.bools.fl (by have:=fp.de;have:=p.d;exact vW (by assumption) this) (by have:=(Fl.bools (T:=t)).de;have:=p.d;exact vW (by assumption) this) rfl ?_
  k_extra"w";have W2:=(W.dm (q':=λc=>(c≠st/\c≠O)/\c≠M) λc d q=>⟨⟨q,λe=>by refine d4 d λU z=>?_;rw[e,Y] at z;cases z⟩,λe=>by refine d4 d λU z=>?_;rw[e,Za] at z;cases z⟩).kp (λc i U e=>s1 _ _ e) C
  refine nU (r:=λc=>c≠st/\c≠O) p.N (p.dd (by decide)) W2 (λc q=>q.2) (W.out Za) f1 fp (by rw[aq];exact aj pz (aZ ..)) M8 (λc q=>q.1) ⟨ns Za,nb⟩ (λc q=>⟨ds q,λe=>by rw[e,R] at q;cases q⟩) (by exact Ff ql) λZ1 qs1 W3 S3 l3=>?_
  have R:=S3 _ _ (λz=>by
   k_extra"Y"
   ·exact(W.out Y).2.2 z
   ·exact nb (aA.mp z).symm) R
  k_extra"w";refine nU (r:=(·≠st)) p.N (p.dd (by decide)) W3 (λc q=>q.2) (W.out Y) R Fl.bools (by rw[aq];exact bj.mp (aW (iG (H.Y.tz t (aL ht))) (aW c8 (by decide)))) Q5 (λc q=>q.1) (ns Y) (λc q e=>?_) (by exact bA l3 (aX (ju ql) (by decide))) λZ2 qs2 W4 S4 l4=>?_
  ·refine d4 E λU z=>?_
   rw[e,S3 _ _ (λA=>?_) (s1 _ _ z)] at q;cases q
   rcases au.mp A with A | A
   ·exact W.qh A.symm
   ·exact ns Za (aA.mp A).symm
  ·k_extra"w"
   refine p.h (h Z2 qs2 W4 (λc U q e=>S4 c U (λz=>?_) (S3 c U (λz=>?_) (s1 _ _ e))) (by exact aj l4 (cQ l3 _)))
   ·k_extra"Y"
    ·k_extra"cH"
    ·rw[aA.mp z,Y] at e;cases e
   ·k_extra"Y"
    ·k_extra"cH"
    ·rw[aA.mp z,Za] at e;cases e
end
theorem K7{c:Type}(f:Bool->c):[f false,f true][(b2i b).toNat]?=some (f b):=by cases b<;>rfl
theorem zc(M:0<=r)(Za:r<2):∃ b:Bool,r=((b2i b).toNat:Int):=by
 by_cases q:r=0
 ·exact⟨false,q⟩
 ·exact⟨true,by show r=1;lia⟩
theorem K8:(b2i b).toNat<=100:=by cases b<;>decide
theorem GP.perm{s:List (Str×Int)}(h:GP u)(p:s.Perm u):GP s:=⟨by rw[E8];exact(p.map _).nodup_iff.mpr (E8▸h.nd),λq c=>h.wd q (p.mem_iff.mp c),λq c=>h.lo q (p.mem_iff.mp c),λq c=>h.hi q (p.mem_iff.mp c)⟩
noncomputable def X7(v:Bool->Sv)(b:Bool)(w:Sv):Bool->Sv:=λc=>bif c==b then w else v c
section
variable{g:G}{o:Fo}{K:Kt}{q:Addr->Prop}{v:Bool->Sv}{Q:V->Hp->Prop}
theorem WrS.re(Za:WrS st zq Z):WrS st Z Z:=⟨e9.refl,Za.nz,Za.hst⟩
theorem Wd.sta(W:Wd o K (·≠st) Z v qs)(k:e9 [st] Z Z')(nz:NZ Z'):Wd o K (·≠st) Z' v qs:=W.kp (λa M U e=>k a U (j9 M) e) nz
theorem U7(N:Nm g)(hD:1<=D)(W:Wd o K (·≠st) Z v qs)(Za:WrS st Z Z)(c:0<k)(C:k<2 ^ 60)(h:∀ r τ,0<=r->r<k->Wd o K (·≠st) τ v qs->WrS st τ τ->Q (.int r) τ):d8 g D true "_law_next" [.ref st,.int k] Z Q X:=
 u6 N hD Za c C λr τ u r1 Za S=>h r τ u r1 (W.sta S Za.nz) Za.re
theorem Wd.op(W:Wd o K q τ v qs)(S:e9 (K.s b).W τ Z')(nz:NZ Z')(H:SdAt o Z' (K.s b) w)(R:AllR (K.s b) w (λa=>Out K a/\q a)):Wd o K q Z' (X7 v b w) qs:=by
 have u:∀ {a},Out K a->a∉(K.s b).W:=fun{a} h=>by cases b;exact h.1;exact h.2.1
 have k:∀ {a},a∉(K.s b).W->Kp τ Z' a:=λh U e=>S _ U h e
 refine⟨W.kt.kp λa M=>k (u (W.oc a M).1),λc=>?_,W.hd.kp (k (W.hw b)) λa M=>k (u M.1),nz,W.oc,λc=>?_,W.wo,W.qh,W.dj,W.hw,W.sp,W.ql⟩
 ·unfold X7
  cases e:c==b with
  | true=>rw[eq_of_beq e];exact H
  | false=>
   have e:c = !b:=by cases c<;>cases b<;>first | rfl | clear S;clear H;cases e
   refine(W.sd c).kp (Q9 λa M=>k ?_) ((W.ro c).imp λa M=>k (u M.1))
   have:=W.dj c a M;rw[e,lO] at this;exact this
 ·unfold X7
  cases e:c==b with
  | true=>rw[eq_of_beq e];exact R
  | false=>exact W.ro c
end
def rSt(K:Kt)(o:Fo)(st:Addr)(F E C y u L c w A x U:Option V):Lo:=[some (.ref K.fl),some (.ref K.ml),some (.ref K.hl),some (.ref st),some (.ref K.pt),some o.fm,some (.ref K.rw),F,E,C,y,u,L,c,w,A,x,U]
def LkJ(o:Fo)(K:Kt)(st:Addr)(v:Bool->Sv)(n:Nat)(F Ja C y u L c E H:Option V)(i:Nat)(w:Lo)(Z':Hp):Prop:=
 ∀ I:Prop,(∀ (qs:List Addr) (x U:Option V) (W:Wd o K (·≠st) Z' v qs) (Za:WrS st Z' Z') (A:qs.length<=n+2*i) (e:w=rSt K o st F Ja C y u L c E H x U),I)->I
section
variable{g:G}{o:Fo}{K:Kt}{v:Bool->Sv}{Q:V->Hp->Prop}
theorem xX(p:Pk pq tab g 20 Q X cx)(kc:KtC o K)(W:Wd o K (·≠st) Z v qs)(Za:WrS st Z Z)(ql:qs.length<8950)(h:∀ Z' P,Wd o K (·≠st) Z' v P->P.length<=qs.length+8->Q (.bool true) Z'){F T E U:Option V}:yJ.w true l6 cx [] (rSt K o st F T C y E L c H I x U) Z:=by
 k_extra"w";refine U7 p.N (p.dd (by decide)) W Za (by decide) (by decide) λr τ r0 r1 W Za=>d4 (bM r0) λr qa=>?_
 subst qa;k_extra"w";refine x3 p (LkJ o K st v qs.length F T C y E L c H I) (λz_ R=>R qs x U W Za (aV _) rfl) (λcx p hB i hi hJ=>?_) ?_
 ·k_extra"cb"
  k_extra"L";k_extra"w";refine U7 p.N (p.dd (by decide)) W Za (by decide) (by decide) λr2 τ2 h0 h1 W Za=>d4 (zc h0 h1) λb eb=>?_
  have hf:=W.kt.hf;k_extra"aw"
  k_extra"w";refine U7 p.N (p.dd (by decide)) W Za (by decide) (by decide) λr3 τ3 _ _ W Za=>?_
  have hm:=W.kt.hm;have hp:=W.kt.hp;k_extra"cc"
  k_extra"w";refine f6 Za.hst λz Y z0 z1=>aX3 p.N (p.dd (by decide)) kc W ⟨_,Y⟩ b (by exact VM ql r1 hi u) λA w S S' l'=>?_
  have Za':WrS st A A:=⟨e9.refl,S.nz,z,S' _ _ (j9 λe=>W.qh e.symm) Y,z0,z1⟩
  k_extra"w";exact hJ (λz_ R=>R w _ _ S Za' (by exact aj l' (cQ u _)) rfl)
 ·k_extra"cb"
  k_extra"w";exact p.h (h Z' P W (zq5 r1 u))
end
theorem DsAt.has(h:DsAt Z cs U)(hc:c∈cs):∃ l,Z c=some (.ds l):=by
 obtain⟨j,hj,rfl⟩:=fu hc;exact⟨_,h.at' (ak hj) (ak (h.len▸hj))⟩
section
variable{g:G}{o:Fo}{K:Kt}{v:Bool->Sv}{Q:V->Hp->Prop}{q:Addr->Prop}
theorem Out.nw(h:Out K a):a∉(K.s b).W:=by
 cases b with
 | false=>exact h.1
 | true=>exact h.2.1
theorem SdAt.nm{s:Sd}{v:Sv}(H:SdAt o τ s v)(sp:SepW s)(a:Addr)(ha:a∈s.P::s.ts):a≠s.d/\a≠s.m/\∀ c∈s.pds++s.mks,a≠c:=by
 have k:∃ l,τ a=some (.L l):=by
  rcases au.mp ha with e | e
  ·rw[e];exact⟨_,H.hP⟩
  ·refine a7 (H.tB.has e) λx N e=>?_;exact⟨_,e⟩
 refine d4 k λl k=>⟨r6 k H.A.hd (show(0:Nat)≠5 by decide),λe=>?_,λc hc e=>?_⟩
 ·rw[e] at ha
  rcases au.mp ha with z | z
  ·exact sp.mP z
  ·exact sp.m2 z
 ·k_extra"bO"
  ·exact d4 (H.A.pd.has z) λw u=>r6 k u (show(0:Nat)≠2 by decide) e
  ·rcases au.mp ha with y | y
   ·rw[<- e,y] at z;exact sp.p1 z
   ·rw[e] at y;exact sp.mt c z y
theorem tZ{L:List V}{B:List (List V)}(x:e9 (P::Ja) τ c)(F:c P=some (.L L))(u:PAt c Ja B){a:Addr}(e:c a=none):τ a=none:=by
 by_cases ha:a∈P::Ja
 ·exfalso
  rcases au.mp ha with z | z
  ·rw[z,F] at e;cases e
  ·exact u.no e z
 ·cases w:τ a with
  | none=>rfl
  | some U=>rw[x _ _ ha w] at e;cases e
theorem Wd.deed(W:Wd o K q τ v qs){A:List (List Bool)}(Y':Yrs o.C O A)(len:A.length=(v b).B.length)(k4:∀ u∈O,∀ p∈u,p.1∈o.W4)(qn:∀ a,τ a=none->q a)
  {E:Hp}(S1:e9 ((K.s b).P::(K.s b).ts) τ x) (F:x (K.s b).P=some (.L (Ja.map .ref))) (pS1:PAt x Ja (S'.map (·.map tS))) (tB1:PAt x (K.s b).ts (A.map (·.map .bool))) (pm1:PmU S' O) (U:∀ a∈Ja,a∈(v b).ps∨τ a=none)
  (s3:Sub x E) (y:E I=some (.L (C.map .ref))) (pla:PAt E C (k8 (o.f O A) o.rh.length A.length)) (P:x I=none) (R:∀ c∈C,x c=none)
  (hc:c∈(K.s b).pds++(K.s b).mks) (S4:e9 [(K.s b).d,c] E w) (n4:NZ w) (A4:FlAt w o.fm (K.s b).x (K.s b).d (K.s b).pa (K.s b).ma rb (K.s b).pds (K.s b).mks cs O A (k8 (o.f O A) o.rh.length A.length)) (nw:∀ a∈S::rb::cs,E a=none) (fb:S≠rb) (fc:S∉cs) :
  Wd o K (λa=>q a/\a≠S) (upd w (K.s b).m (.L [.ref (K.s b).P,.ref (K.s b).T,.ref I])) (X7 v b ⟨rb,I,cs,C,Ja,O,S',A⟩) qs:=by
 have H:=W.sd b;have sp:=W.sp b;have nd:∀ {a},x a=none->τ a=none:=tZ S1 F tB1;have oR:=(W.ro b).imp λa M=>M.1
 have dW:=(W.sd b).dW.all;have Za:=Q9 (s:=K.s b) (q:=(·∈(K.s b).W)) λa M=>M
 have cW:c∈(K.s b).W:=.tail _ (.tail _ (.tail _ (by
  k_extra"bO"
  ·exact bu _ z
  ·exact bk _ (bu _ z))))
 have k5:∀ {a},a≠(K.s b).d->a≠c->a≠(K.s b).m->Kp E (upd w (K.s b).m (.L [.ref (K.s b).P,.ref (K.s b).T,.ref I])) a:=λh1 h2 h3 o' e=>by
  rw[e8 _ _ h3];exact S4 _ _ (λz=>by
   k_extra"Y"
   ·exact h1 z
   ·exact h2 (aA.mp z)) e
 have kO:∀ {a},a∉(K.s b).W->Kp E (upd w (K.s b).m (.L [.ref (K.s b).P,.ref (K.s b).T,.ref I])) a:=λh=>k5 (λz=>h (z▸Za.d)) (λz=>h (z▸cW)) (λz=>h (z▸Za.m))
 have kS:e9 (K.s b).W τ (upd w (K.s b).m (.L [.ref (K.s b).P,.ref (K.s b).T,.ref I])):=λa o' h e=>kO h _ (s3 _ _ (S1 _ _ (λz=>h (by
  k_extra"Y"
  ·rw[z];exact Za.P
  ·exact Za.ts _ z)) e))
 have kP:∀ {a},a∈(K.s b).P::(K.s b).ts->Kp E (upd w (K.s b).m (.L [.ref (K.s b).P,.ref (K.s b).T,.ref I])) a:=fun{a} M=>by
  exact i5 (H.nm sp a M) λz1 z2 z3=>k5 z1 (z3 c hc) z2
 have nf:=nd (j4 s3 (nw _ (.head _)));have T:∀ a∈rb::cs,τ a=none:=λa M=>nd (j4 s3 (nw _ (.tail _ M)))
 have or:∀ {a},τ a=none->Out K a:=λh=>W.out h
 have W':Wd o K (λa=>q a/\a≠S) τ v qs:=W.dm λa d h=>⟨h,λz=>by refine d4 d λo' e=>?_;rw[z,nf] at e;cases e⟩
 have fq:∀ {a o'},E a=some o'->a≠S:=λe z=>by rw[z,nw _ (.head _)] at e;cases e
 have rR:=W'.ro b;have L:∀ {a},a≠(K.s b).m->Kp w (upd w (K.s b).m (.L [.ref (K.s b).P,.ref (K.s b).T,.ref I])) a:=λh o' e=>by rw[e8 _ _ h];exact e
 have Y:∀ {a},a∉(K.s b).W->Kp w (upd w (K.s b).m (.L [.ref (K.s b).P,.ref (K.s b).T,.ref I])) a:=λh=>L λz=>h (z▸Za.m)
 have ops:∀ a∈Ja,Out K a:=λa M=>by
  rcases U a M with z | z
  ·exact oR.ps a z
  ·exact or z
 refine W'.op kS (n4.upd rfl) ⟨?_,d6 _ _ _,kP (.head _) _ (s3 _ _ F),kS _ _ oR.T.nw H.hT,kO (or (nd P)).nw _ y,(pS1.sub s3).kp λa M=>kO (ops a M).nw,(tB1.sub s3).kp λa M=>kP (.tail _ M),pla.kp λa M=>kO (or (nd (R a M))).nw,Y',by rw[len];exact H.n1,pm1,k4⟩ ⟨rR.x,rR.pa,rR.ma,rR.T,?_,?_,λa M=>?_,λa M=>?_,λa M=>?_⟩
 ·refine A4.kp (Y oR.x.nw) (L (r6 H.hm H.A.hd (show(0:Nat)≠5 by decide)).symm) (Y oR.pa.nw) (Y oR.ma.nw) (Y (or (T _ (.head _))).nw) (λa M=>L λz=>?_) (λa M=>L λz=>sp.m1 (z▸M)) (λa M=>Y (or (T _ (.tail _ M))).nw)
  exact d4 (H.A.pd.has M) λl' k'=>r6 k' H.hm (show(2:Nat)≠0 by decide) z
 ·exact⟨or (T _ (.head _)),qn _ (T _ (.head _)),fb.symm⟩
 ·exact⟨or (nd P),qn _ (nd P),fq y⟩
 ·exact⟨or (T _ (.tail _ M)),qn _ (T _ (.tail _ M)),λz=>fc (z▸M)⟩
 ·exact a7 (pla.has M) λl' N e=>⟨or (nd (R a M)),qn _ (nd (R a M)),fq e⟩
 ·refine a7 ((pS1.sub s3).has M) λl' N e=>?_
  rcases U a M with z | z
  ·exact rR.ps a z
  ·exact⟨or z,qn _ z,fq e⟩
theorem bS6{E:XP}{A:KT}{s:List V}{J:Lo}(p:Pk pq tab g I QQ E cx)(T:Z C=some (.L (chg f w m n)))(hz:(chg f w m n).length<=10000)(h:∀ b,Z b=none->A cx (.ref b::s) J (upd Z b (.L []))):CLoop ((IC.t (.not (.of (.isi (.v 0) .tuple))) (.v 0)).w true) A [] (chg f w m n) (λZ=>Z C=some (.L (chg f w m n))) cx s J Z:=by
 refine CLoop.g p (λc F Z'=>Z=Z'/\F=[]/\∀ x∈c,∃ i j:Int,x=.tup [.int i,.int j]) hz ⟨rfl,rfl,λx hx=>ur hx⟩ (λcx p v c F H hN=>?_) ?_
 ·k_extra"cM";rw[y] at H hN
  refine⟨T,?_⟩;refine k9 (hr v (.head _)) λi j Ja=>?_;subst Ja
  k_extra"cd"
 ·k_extra"b8"
  exact⟨T,λa M=>h a M⟩
end
theorem nJ(Za:a≠x)(S:a≠y):a∉[x,y]:=λz=>by
 k_extra"Y"
 ·exact Za z
 ·exact S (aA.mp z)
section
variable{g:G}{o:Fo}{K:Kt}{v:Bool->Sv}{Q:V->Hp->Prop}{q:Addr->Prop}
theorem SdAt.ne_m{s:Sd}{v:Sv}(H:SdAt o τ s v)(sp:SepW s):s.m≠s.d/\∀ c∈s.pds++s.mks,s.m≠c:=by
 refine⟨r6 H.hm H.A.hd (show(0:Nat)≠5 by decide),λc hc e=>?_⟩
 k_extra"bO"
 ·exact d4 (H.A.pd.has z) λw u=>r6 H.hm u (show(0:Nat)≠2 by decide) e
 ·exact sp.m1 (e▸z)
set_option tactic.hygienic true in
theorem bF6(p:Pk pq tab g 20 Q X cx)(kc:KtC o K)(W:Wd o K (·≠st) τ v qs)(Za:WrS st τ τ)(U:DeedOK cx.g o (K.s b) (v b) dd y T)(S1:e9 ((K.s b).P::(K.s b).ts) τ w)(nz1:NZ w)(A:w (K.s b).P=some (.L (ps'.map .ref)))(pS1:PAt w ps' (S'.map (·.map tS)))(S:PAt w (K.s b).ts (T.map (·.map .bool)))(P:PmU S' y)(fr1:∀ a∈ps',a∈(v b).ps∨τ a=none)(ql:qs.length<8950)(eb:r=((b2i b).toNat:Int))
  (h:∀ Z' v' qs' c13 c14 c15,Wd o K (·≠st) Z' v' qs'->WrS st Z' Z'->qs'.length<=qs.length+1->KK cx [] (rSt K o st (some (.int r)) (some (.ref (K.s b).m)) a9 a10 a11 (some dd) c13 c14 c15 a16 a17) Z') :
  Ep.w true KK cx [] (rSt K o st (some (.int r)) (some (.ref (K.s b).m)) a9 a10 a11 (some dd) a13 a14 a15 a16 a17) w:=by
 have H:=W.sd b;have F:=kc.F;have sp:=W.sp b;have zz:=H.Y.zz;have l40:=F.l40;have oR:=(W.ro b).imp λa M=>M.1.nw (b:=b)
 have mW:=Q9 (s:=K.s b) (q:=(·∈(K.s b).W)) λa M=>M
 have kP:∀ {a},a∉(K.s b).W->Kp τ w a:=λh o' e=>S1 _ o' (λz=>h (by
  k_extra"Y"
  ·rw[z];exact mW.P
  ·exact mW.ts _ z)) e
 have kN:∀ {a},a∉(K.s b).P::(K.s b).ts->Kp τ w a:=λh o' e=>S1 _ _ h e
 have hm1:=kN (λz=>(H.nm sp _ z).2.1 rfl) _ H.hm
 have hT1:=kP oR.T _ H.hT;have hR1:=kP oR.R _ H.hR;have kt1:=W.kt.kp λa M=>kP (W.oc a M).1.nw
 have hf1:=kt1.hf;have len:=U.len;have lU:=U.Y.lu;have nu:∀ u∈y,(u.map (·.1)).Nodup:=λu hu=>E8▸(U.Y.gp u hu).nd
 have sU:∀ s∈S',∃ u∈y,s.Perm u:=λs hs=>by
  obtain⟨j,hj,rfl⟩:=fu hs;have hu:=ak (P.len▸hj);exact⟨_,aL hu,(P.pm (ak hj) hu).1⟩
 k_extra"w";refine Ej p.N (p.dd (by decide)) F kt1.hr kc.tp kc.ol ⟨A,hT1,pS1,S,(P.len.trans lU),λs hs=>?_,λs hs=>?_,U.Y.tz,by exact Di zz len⟩ nz1 λZ2 la lcs s2 n2 hla pla wla wl=>?_
 ·refine a7 (sU s hs) λu hu hp=>?_;exact(U.Y.gp u hu).perm hp
 ·refine a7 (sU s hs) λu hu hp=>?_;rw[hp.length_eq];exact U.Y.uz u hu
 rw[bD3 F.lnk P nu lU,len] at pla;have hm2:=s2 _ _ hm1;have pR2:PAt Z2 (v b).rs _:=(H.rR.kp λc hc=>kP (oR.rs c hc)).sub s2
 k_extra"w";refine bL5 p.N (p.dd (by decide)) (s2 _ _ hR1) hla pR2 pla l40 zz λda C=>?_
 have s3:Sub w (upd Z2 da (.L (chg (o.f (v b).U (v b).B) (yF o.rh o.tb o.rk y T) o.rh.length (v b).B.length))):=s2.trans (Sub.upd C);have n3:=n2.upd (a:=da) (rG (f:=o.f (v b).U (v b).B) (g:=yF o.rh o.tb o.rk y T) (m:=o.rh.length) (n:=(v b).B.length));have E:=d6 Z2 da (.L (chg (o.f (v b).U (v b).B) (yF o.rh o.tb o.rk y T) o.rh.length (v b).B.length));have O:=i4 (o:=.L (chg (o.f (v b).U (v b).B) (yF o.rh o.tb o.rk y T) o.rh.length (v b).B.length)) hla C;have x:=pla.sub (Sub.upd (o:=.L (chg (o.f (v b).U (v b).B) (yF o.rh o.tb o.rk y T) o.rh.length (v b).B.length)) C);have dn:w da=none:=j4 s2 C;generalize upd Z2 da (.L (chg (o.f (v b).U (v b).B) (yF o.rh o.tb o.rk y T) o.rh.length (v b).B.length))=Z3 at s3 n3 E O x ⊢;clear pla hla hm2 pR2 s2 n2 C;have hf3:=s3 _ _ hf1;have hm3:=s3 _ _ hm1;k_extra"aw"
 have k1:∀ {a},a∉(K.s b).P::(K.s b).ts->Kp τ Z3 a:=λh o' e=>s3 _ _ (kN h o' e)
 have k2:∀ {a},a∉(K.s b).W->Kp τ Z3 a:=λh o' e=>s3 _ _ (kP h o' e)
 have A3:=H.A.kp (k2 oR.x) (k1 λz=>(H.nm sp _ z).1 rfl) (k2 oR.pa) (k2 oR.ma) (k2 oR.ra) (λc hc=>k1 λz=>(H.nm sp _ z).2.2 c (bu _ hc) rfl) (λc hc=>k1 λz=>(H.nm sp _ z).2.2 c (bk _ hc) rfl) (λc hc=>k2 (oR.rws c hc))
 refine U.told (p.dd (by decide)) A3 n3 λfa Z4 c hc z=>z _ ?_
 clear z;rintro rb cs S4 n4 A4 hf4 nw4 fb fc;rw[<- len] at x;refine f6 Za.hst λzs est zs0 zs1=>?_
 have R:st∉(K.s b).W:=λz=>(W.wo b).all _ z rfl
 have W1:=W.deed U.Y len U.k4 (λa M=>(j7 est M).symm) S1 A pS1 S P fr1 s3 O x wl wla hc S4 n4 A4 nw4 fb fc
 have cW:c∈(K.s b).W:=.tail _ (.tail _ (.tail _ (by
  k_extra"bO"
  ·exact bu _ z
  ·exact bk _ (bu _ z))))
 have hst4:=S4 st _ (nJ (a:=st) (λz=>R (z▸mW.d)) (λz=>R (z▸cW))) (k2 R _ est)
 have hm4:=S4 _ _ (nJ (H.ne_m sp).1 ((H.ne_m sp).2 c hc)) hm3;have daW:da∉(K.s b).W:=(W.out (tZ S1 A S dn)).nw;have hda4:=S4 da _ (nJ (a:=da) (λz=>daW (z▸mW.d)) (λz=>daW (z▸cW))) E
 rw[len] at hf4;have Y:=p8 (o:=.L [.ref (K.s b).P,.ref (K.s b).T,.ref la]) hf4 ((W1.wo b).m.2).symm;have hda5:=p8 (o:=.L [.ref (K.s b).P,.ref (K.s b).T,.ref la]) hda4 (λz=>daW (z▸mW.m))
 have Ja:=p8 (o:=.L [.ref (K.s b).P,.ref (K.s b).T,.ref la]) hst4 (λz=>R (z▸mW.m))
 have cl:(chg (o.f (v b).U (v b).B) (yF o.rh o.tb o.rk y T) o.rh.length (v b).B.length).length<=320:=aj tW (kY zz l40);have fst:=(j7 (k2 R _ est) (nw4 _ (.head _))).symm;have of:=W.out (tZ S1 A S (j4 s3 (nw4 _ (.head _))));clear hf4 hda4 hst4;k_extra"w";refine(?_:ISs.w _ true KK cx [] _ (upd Z4 (K.s b).m (.L [.ref (K.s b).P,.ref (K.s b).T,.ref la])));generalize upd Z4 (K.s b).m (.L [.ref (K.s b).P,.ref (K.s b).T,.ref la])=Z5 at W1 Y hda5 Ja ⊢;generalize X7 v b ⟨rb,la,cs,lcs,ps',y,S',T⟩=v1 at W1;clear S4 n4 A4 nw4 fb fc hc cW hm4 hm3 hf3 x O E s3 n3 A3 k1 k2 hT1 hR1 hm1 kN kP S1 nz1 A pS1 S fr1 kt1 hf1 wl wla dn;k_extra"w";refine qW Es (p.dd (by decide)) ?_
 k_extra"w";refine bS6 p Y (aj cl (aZ ..)) λba hba=>?_
 have W2:=W1.kp (λa _=>Sub.upd (o:=.L []) hba a) (W1.nz.upd (o:=.L []) rfl)
 have I:=i4 (o:=.L []) Y hba;have L:=i4 (o:=.L []) Ja hba;have hba6:=d6 Z5 ba (.L []);generalize upd Z5 ba (.L [])=Z6 at W2 I L hba6 ⊢;clear Y Ja W1 hda5;k_extra"w";rename_i xa hxa;refine xN (p.dd (by decide)) ?_
 have W3:=W2.kp (λa _=>Sub.upd (o:=.L []) hxa a) (W2.nz.upd (o:=.L []) rfl)
 have hfa7:=i4 (o:=.L []) I hxa;have hst7:=i4 (o:=.L []) L hxa;generalize upd Z6 xa (.L [])=Z7 at W3 hfa7 hst7 ⊢;clear I L W2 hba6;k_extra"w";refine u6 p.N (p.dd (by decide)) (zq:=Z7) ⟨e9.refl,W3.nz,zs,hst7,zs0,zs1⟩ (by decide) (by decide) λr3 Z8 _ _ Za8 S8=>?_
 have W4:=W3.kp (λa M o' e=>S8 a o' (j9 M.1) e) Za8.nz
 have hfa8:=S8 _ _ (j9 fst) hfa7;refine f6 Za8.hst λz8 est8 z80 z81=>?_
 k_extra"w";refine nU p.N (p.dd (by decide)) W4 (r:=(·≠st)) (λa M=>M.2) of hfa8 Es (aj cl (aZ ..)) rG (λa M=>M.1) fst (λa M=>(j7 est8 M).symm) (aj ql (aZ ..)) λZ9 qs9 W9 S9 l9=>?_
 k_extra"w";exact h Z9 v1 qs9 _ _ _ W9 ⟨e9.refl,W9.nz,z8,S9 _ _ (nJ W9.qh.symm fst.symm) est8,z80,z81⟩ l9
theorem Qe(N:Nm g)(hD:21<=D)(u:KtC o K)(W:Wd o K (·≠st) Z v qs)(Za:WrS st Z Z)(A:qs.length<8940)(h:∀ Z' v' P,Wd o K (·≠st) Z' v' P->P.length<=qs.length+9->Q (.bool true) Z'):d8 g D true "_law_step" [.ref K.fl,.ref K.ml,.ref K.hl,.ref st,.ref K.pt,o.fm,.ref K.rw] Z Q X:=by
 refine bd N Ni (by k_extra"b") hD λcx p=>?_
 k_extra"w";refine U7 p.N (p.dd (by decide)) W Za (by decide) (by decide) λr τ r0 r1 W Za=>d4 (zc r0 r1) λb eb=>?_
 have F:=u.F;have hml:=W.kt.hm;have hp:=W.kt.hp;have hl:=W.kt.hl;have ht:=W.kt.ht;have hm:=(W.sd b).hm;have hP:=(W.sd b).hP;have H:=W.sd b;k_extra"aZ"
 have n1:=H.n1;have zz:=H.Y.zz;have l40:=F.l40;have t5:=F.t5;k_extra"cc"
 k_extra"w";refine U7 p.N (p.dd (by decide)) W Za (by decide) (by decide) λr2 τ2 _ _ W Za=>?_
 have hp:=W.kt.hp;have R:=W.kt.hw;k_extra"w"
 ·cases c:K.ws with
  | nil=>have:=u.w5;rw[c] at this;exact absurd this (by decide)
  | cons wd wt=>
   rw[c] at R;rw[lp];refine Vx p.N (p.dd (by decide)) (n:=(v b).B.length) (m:=o.rh.length) (C:=o.C) (wt:=wt.map .str) Za R (W.oc _ (.tail _ (.tail _ (.tail _ (.tail _ (.tail _ (.head _))))))).2 (.str (vf (u.ww wd (by rw[c];exact .head _)))) n1 zz λZ3 ga O E=>?_
   have y:=W.sta O.stay O.nz;have hf:=y.kt.hf;refine v8 E λdd w e B hga=>?_
   k_extra"aw"
   k_extra"w";refine Iz p.N (p.dd (by decide)) F (y.sd b).A y.nz H.Y (H.u4 ?_) B ?_
   ·rw[u.e4];exact lL _ _
   k_extra"w";exact Stop.mk (xX p u y O.re (by exact xu A) λZ' P I S=>h Z' v P I (by exact gM S))
 ·rw[lp]
  refine GF p.N (p.dd (by decide)) (n:=(v b).B.length) (C:=o.C) Za R (W.oc _ (.tail _ (.tail _ (.tail _ (.tail _ (.tail _ (.head _))))))).2 u.w5 u.w8 n1 zz F.c8 λZ3 dd O E=>?_
  rw[<- u.e4] at E;have y:=W.sta O.stay O.nz;have hm3:=(y.sd b).hm;obtain⟨U',B',DK⟩:=bu4 p.N F (by rw[u.e4];exact lL _ _) (λx hx=>u.ww x (eG (by rw[<- u.e4];exact hx))) (y.sd b) ((y.ro b).imp λa ha=>ha.1.nw) (y.sp b) E
  k_extra"w";refine DK.noted (p.dd (by decide)) (y.sd b) y.nz λZ4 ps' S' S4 L M T Y U Ja=>?_
  k_extra"w";exact Stop.mk (bF6 p u y O.re DK S4 L M T Y U Ja (by exact xu A) eb λZ5 v5 qs5 j j j W5 Za5 l5=>Stop.mk (xX p u W5 Za5 (by exact bA l5 (aX (ju A) (by decide))) λZ' P I S=>h Z' v5 P I (by exact aj S (cQ l5 _))))
end
structure BgAt(o:Fo)(Z:Hp)(n:Nat)(m P T R:Addr)(ts rs ps:List Addr):Prop where
 hm:Z m=some (.L [.ref P,.ref T,.ref R])
 hP:Z P=some (.L (ps.map .ref))
 hT:Z T=some (.L (ts.map .ref))
 hR:Z R=some (.L (rs.map .ref))
 pS:PAt Z ps (aC n [])
 tB:PAt Z ts (aC n ((aC o.C.toNat false).map .bool))
 rR:PAt Z rs (k8 (o.f (aC n []) (aC n (aC o.C.toNat false))) o.rh.length n)
 mP:m≠P
 m2:m∉ts
 p2:P∉ts
 nt:ts.Nodup
 out:∀ a∈T::R::(rs++ps),a≠m/\a≠P/\a∉ts
section
variable{g:G}{o:Fo}{Q:V->Hp->Prop}{r:Addr}{O:List Int}
set_option tactic.hygienic true in
theorem Ds(N:Nm g)(hD:13<=D)(F:FG o.rh o.tb o.C o.ow o.rk)(hr:Z r=some (.L (O.map .int)))(tp:Tp o.rh O)(ol:O.length=o.rh.length)(Za:WrS st Z Z)(hrs:r≠st)
  (h:∀ Z' n m P T R ts rs ps,1<=n->n<=8->WrS st Z Z'->BgAt o Z' n m P T R ts rs ps->(∀ a∈m::P::T::R::(ts++(rs++ps)),Z a=none)->Q (.ref m) Z'):d8 g D true "_law_begun" [o.fm,.ref r,.ref st,.int o.C] Z Q X:=by
 refine bd N bs0 (by k_extra"b") hD λcx p=>?_
 have c0:=F.c0;have c8:=F.c8;k_extra"w";refine u6 p.N (p.dd (by decide)) Za (by decide) (by decide) λr1 τ U r11 Za _=>?_
 k_extra"w";refine u6 p.N (p.dd (by decide)) Za (by decide) (by decide) λr2 τ _ _ Za _=>?_
 k_extra"w";have hb:∀ {b:Bool},0<=b2i b/\b2i b<2:=fun{b}=>by cases b<;>decide
 refine K4 (λv=>∃ n:Nat,v=.int n/\1<=n/\n<=8) hb.1 hb.2 (λv hv=>?_) λv hv=>?_
 ·rcases au.mp hv with q | q
  ·exact⟨(1+r1).toNat,by rw[bQ (iW (by decide) U)];exact q,by exact wJ U,by exact fW.mpr (aW (Int.add_le_add_left (eU r11) 1) (by decide))⟩
  ·exact⟨8,aA.mp q,by decide,by decide⟩
 refine f6 hv λn qa n1 n8=>?_;clear hv;subst qa
 k_extra"w";refine tD (x:=[]) p n8 Za.nz rfl (λcx p v Z' k=>?_) λZ2 P ps s2 nz2 p2 d2 w2 mm2 A=>?_
 ·k_extra"w"
  rename_i b hb;exact k _ b _ (Sub.refl _) id hb
 k_extra"w";refine tD (x:=(aC o.C.toNat false).map .bool) p n8 nz2 Q5 (λcx p v Z' k=>?_) λZ3 T ts s3 nz3 S d3 w3 mm3 E=>?_
 ·k_extra"w"
  k_extra"bz"
 have u:=qI (C:=o.C) (n:=n) c0 n8;k_extra"w";refine Ej p.N (p.dd (by decide)) F (s3 _ _ (s2 _ _ (Za.stay _ _ (j9 hrs) hr))) tp ol (Us:=aC n []) (Ts:=aC n (aC o.C.toNat false)) ⟨s3 _ _ A,E,by rw[fM];exact p2.sub s3,by rw[fM];exact S,u.lu,u.gp,u.uz,u.tz,aj u.zz (by decide)⟩ nz3 λH R rs y nz4 M p4 w4 wR=>?_
 rw[bK,pL (by rw[bK];exact aV _) (by rw[bK];exact aV _)] at p4
 k_extra"w";rename_i m w;refine f6 Za.hst λk I k0 k1=>?_
 have Y:Sub τ (upd H m (.L [.ref P,.ref T,.ref R])):=((s2.trans s3).trans y).trans (Sub.upd w);have K:∀ {a},τ a=none->Z a=none:=λe=>G2 Za.stay I e
 have Ja:Sub H (upd H m (.L [.ref P,.ref T,.ref R])):=Sub.upd w;have L:=y _ _ (s3 _ _ A);have nP:∀ {a},Z2 a=none->a≠P:=λe=>(j7 A e).symm
 refine p.h (h _ n m P T R ts rs ps n1 n8 ⟨λc o' q e=>Y _ _ (Za.stay c o' q e),nz4.upd rfl,k,Y _ _ I,k0,k1⟩ ⟨d6 _ _ _,Ja _ _ L,Ja _ _ (y _ _ E),Ja _ _ M,((p2.sub s3).sub y).sub Ja,(S.sub y).sub Ja,p4.sub Ja,(j7 L w).symm,(S.sub y).no w,λq=>nP (w3 P (.tail _ q)) rfl,d3,λa ha=>?_⟩ λa ha=>?_)
 ·k_extra"W"
  ·rw[q];exact⟨j7 (y _ _ E) w,nP (w3 T (.head _)),mm3⟩
  k_extra"W"
  ·rw[q];exact⟨j7 M w,nP (j4 s3 wR),S.no wR⟩
  rcases aH.mp ha with q | q
  ·exact⟨λz=>p4.no w (z▸q),nP (j4 s3 (w4 a q)),S.no (w4 a q)⟩
  ·exact⟨λz=>((p2.sub s3).sub y).no w (z▸q),λz=>mm2 (z▸q),λz=>p2.no (w3 a (.tail _ z)) q⟩
 ·k_extra"W"
  ·rw[q];exact K (j4 ((s2.trans s3).trans y) w)
  k_extra"W"
  ·rw[q];exact K (w2 P (.head _))
  k_extra"W"
  ·rw[q];exact K (j4 s2 (w3 T (.head _)))
  k_extra"W"
  ·rw[q];exact K (j4 (s2.trans s3) wR)
  rcases aH.mp ha with q | ha
  ·exact K (j4 s2 (w3 a (.tail _ q)))
  rcases aH.mp ha with q | q
  ·exact K (j4 (s2.trans s3) (w4 a q))
  ·exact K (w2 a (.tail _ q))
end
theorem FlAt.out{E D F:Addr}(A:FlAt Z fm x d E D F w c y U T R):∀ a∈x::E::D::F::y,a≠d/\a∉w/\a∉c:=by
 have k:∀ {a l},Z a=some (.L l)->a∉c->a≠d/\a∉w/\a∉c:=λe h=>⟨r6 e A.hd (show(0:Nat)≠5 by decide),λz=>by
  refine d4 (A.pd.has z) λC u=>?_
  exact r6 e u (show(0:Nat)≠2 by decide) rfl,h⟩
 intro a ha;k_extra"W"
 ·rw[q]
  refine⟨r6 A.hx A.hd (show(4:Nat)≠5 by decide),λz=>?_,λz=>?_⟩
  ·exact d4 (A.pd.has z) λC u=>r6 A.hx u (show(4:Nat)≠2 by decide) rfl
  ·exact a7 (A.mb.has z) λC N u=>r6 A.hx u (show(4:Nat)≠0 by decide) rfl
 k_extra"W"
 ·rw[q];exact k A.hp A.a1
 k_extra"W"
 ·rw[q];exact k A.hm A.a2
 k_extra"W"
 ·rw[q];exact k A.hr A.a3
 ·exact a7 (A.ro.has ha) λC N u=>k u (A.a4 a ha)
structure Tm(t:Addr->Nat)(K:Kt)(v:Bool->Sv):Prop where
 c:∀ a∈[K.pt,K.pl,K.tl,K.wl,K.rw],t a=0
 ml:t K.ml=3
 fl:t K.fl=6
 hl:t K.hl=7
 g1:∀ b,∀ a∈(K.s b).m::(K.s b).P::(K.s b).T::(v b).R::((K.s b).ts++((v b).rs++(v b).ps)),t a=bif b then 2 else 1
 g2:∀ b,∀ a∈(K.s b).x::(K.s b).d::(K.s b).pa::(K.s b).ma::(v b).ra::((K.s b).pds++((K.s b).mks++(v b).rws)),t a=bif b then 5 else 4
section
variable{o:Fo}{K:Kt}{v:Bool->Sv}{t:Addr->Nat}
theorem Tm.nw(H:Tm t K v)(Za:t a=(bif b then 2 else 1)->a≠(K.s b).m/\a≠(K.s b).P/\a∉(K.s b).ts)(S:t a=(bif b then 5 else 4)->a≠(K.s b).d/\a∉(K.s b).pds/\a∉(K.s b).mks):a∉(K.s b).W:=by
 have c:=H.g1 b;have x:=H.g2 b;refine λha=>?_
 k_extra"e"
 ·exact(S (x a (by rw[e];exact .tail _ (.head _)))).1 e
 k_extra"e"
 ·exact(Za (c a (by rw[e];exact .head _))).1 e
 k_extra"e"
 ·exact(Za (c a (by rw[e];exact .tail _ (.head _)))).2.1 e
 k_extra"cj"
 ·exact(S (x a (.tail _ (.tail _ (.tail _ (.tail _ (.tail _ (bu _ e)))))))).2.1 e
 k_extra"cA"
 ·exact(S (x a (.tail _ (.tail _ (.tail _ (.tail _ (.tail _ (bk _ (bu _ e))))))))).2.2 e
 ·exact(Za (c a (.tail _ (.tail _ (.tail _ (.tail _ (bu _ e))))))).2.2 e
theorem Tm.wt(H:Tm t K v)(M:a∈(K.s b).W):t a=(bif b then 2 else 1)∨t a=(bif b then 5 else 4):=cu λh=>H.nw (b:=b) (a:=a) (λe=>absurd (.inl e) h) (λe=>absurd (.inr e) h) M
theorem Tm.no(H:Tm t K v)(e:t a=n)(Za:n≠1:=by decide)(S:n≠2:=by decide)(X:n≠4:=by decide)(E:n≠5:=by decide):a∉(K.s b).W:=λM=>by
 subst e;cases b with
 | false=>exact(H.wt M).elim Za X
 | true=>exact(H.wt M).elim S E
theorem Mf(H:Tm t K v)(C:KtAt o K Z)(x:∀ b,SdAt o Z (K.s b) (v b))(nz:NZ Z)(A:Z K.hl=some (.L []))
  (E:∀ b,(K.s b).m≠(K.s b).P) (D:∀ b,(K.s b).m∉(K.s b).ts) (y:∀ b,(K.s b).P∉(K.s b).ts) (F:∀ b,(K.s b).ts.Nodup) (out:∀ b,∀ a∈(K.s b).T::(v b).R::((v b).rs++(v b).ps),a≠(K.s b).m/\a≠(K.s b).P/\a∉(K.s b).ts):Wd o K (λN=>True) Z v []:=by
 have no7:∀ {a n},t a=n->n≠7->a≠K.hl:=λe h z=>h (by rw[<- e,z];exact H.hl)
 have I:∀ {b a},a∈(K.s b).T::(v b).R::((v b).rs++(v b).ps)->t a=bif b then 2 else 1:=fun{b a} ha=>H.g1 b a (by
  k_extra"e"
  ·rw[e];exact .tail _ (.tail _ (.head _))
  k_extra"e"
  ·k_extra"cX"
  ·exact .tail _ (.tail _ (.tail _ (.tail _ (bk _ ha)))))
 have Q:∀ {b a},a∈(K.s b).T::(v b).R::((v b).rs++(v b).ps)->Out K a/\True:=fun{b a} ha=>by
  have e:=I ha;have n:=H.nw (λN=>out b a ha) (λz=>by rw[e] at z;cases b<;>cases z)
  cases b with
  | false=>exact⟨⟨n,λz=>by rcases H.wt z with z | z<;>(rw[e] at z;cases z),no7 e (by decide)⟩,trivial⟩
  | true=>exact⟨⟨λz=>by rcases H.wt z with z | z<;>(rw[e] at z;cases z),n,no7 e (by decide)⟩,trivial⟩
 have q:∀ {b a},a∈(K.s b).x::(K.s b).pa::(K.s b).ma::(v b).ra::(v b).rws->t a=bif b then 5 else 4:=fun{b a} ha=>H.g2 b a (by
  k_extra"e"
  ·rw[e];exact .head _
  k_extra"e"
  ·rw[e];exact .tail _ (.tail _ (.head _))
  k_extra"e"
  ·k_extra"cX"
  k_extra"e"
  ·rw[e];exact .tail _ (.tail _ (.tail _ (.tail _ (.head _))))
  ·exact .tail _ (.tail _ (.tail _ (.tail _ (.tail _ (bk _ (bk _ ha)))))))
 have u:∀ {b a},a∈(K.s b).x::(K.s b).pa::(K.s b).ma::(v b).ra::(v b).rws->Out K a/\True:=fun{b a} ha=>by
  have e:=q ha;have n:=H.nw (λz=>by rw[e] at z;cases b<;>cases z) (λN=>(x b).A.out a ha)
  cases b with
  | false=>exact⟨⟨n,λz=>by rcases H.wt z with z | z<;>(rw[e] at z;cases z),no7 e (by decide)⟩,trivial⟩
  | true=>exact⟨⟨λz=>by rcases H.wt z with z | z<;>(rw[e] at z;cases z),n,no7 e (by decide)⟩,trivial⟩
 have mk:∀ {b a},a∈(K.s b).mks->t a=bif b then 5 else 4:=fun{b a} ha=>H.g2 b a (.tail _ (.tail _ (.tail _ (.tail _ (.tail _ (bk _ (bu _ ha)))))))
 have w:∀ {b a},a∈(K.s b).mks->¬ t a=bif b then 2 else 1:=fun{b a} ha z=>by rw[mk ha] at z;cases b<;>cases z
 refine⟨C,x,⟨A,λa ha=>by cases ha⟩,nz,λa ha=>?_,λb=>⟨u (.head _),u (.tail _ (.head _)),u (.tail _ (.tail _ (.head _))),Q (.head _),u (.tail _ (.tail _ (.tail _ (.head _)))),Q (.tail _ (.head _)),λa ha=>u (.tail _ (.tail _ (.tail _ (.tail _ ha)))),λa ha=>Q (.tail _ (.tail _ (bu _ ha))),λa ha=>Q (.tail _ (.tail _ (bk _ ha)))⟩,λb=>⟨trivial,trivial,trivial,λN N=>trivial,λN N=>trivial,λN N=>trivial⟩,trivial,λb a ha=>?_,λb=>H.no H.hl,λb=>⟨E b,λz=>w z (H.g1 b _ (.head _)),D b,λz=>w z (H.g1 b _ (.tail _ (.head _))),y b,λc O z=>w O (H.g1 b _ (.tail _ (.tail _ (.tail _ (.tail _ (bu _ z)))))),F b⟩,aY _⟩
 ·k_extra"e"
  ·rw[e];exact⟨⟨H.no H.fl,H.no H.fl,no7 H.fl (by decide)⟩,trivial⟩
  k_extra"e"
  ·rw[e];exact⟨⟨H.no H.ml,H.no H.ml,no7 H.ml (by decide)⟩,trivial⟩
  ·have e:=H.c a ha
   exact⟨⟨H.no e,H.no e,no7 e (by decide)⟩,trivial⟩
 ·intro z
  have Za:=H.wt ha;have S:=H.wt z;cases b with
  | false=>rcases Za with Za | Za<;>rcases S with S | S<;>(rw[Za] at S;cases S)
  | true=>rcases Za with Za | Za<;>rcases S with S | S<;>(rw[Za] at S;cases S)
end
noncomputable def tmF:List Hp->Addr->Nat
 | [],_=>0
 | τ::l,a=>bif (τ a).isNone then tmF l a+1 else 0
theorem I9{l:List Hp}{a:Addr}{n:Nat}(h:τ a=none)(k:tmF l a=n):tmF (τ::l) a=n+1:=by
 unfold tmF;rw[h,k];rfl
theorem L5{l:List Hp}{a:Addr}(h:Dm τ a):tmF (τ::l) a=0:=by
 obtain⟨o,h⟩:=h;unfold tmF;rw[h];rfl
theorem Lj{K:Kt}{v:Bool->Sv}{Y x t2 t3 t4 q H:Hp}(O:∀ a,x a=none->Y a=none)(P:∀ a,t2 a=none->x a=none)(R:∀ a,t3 a=none->t2 a=none)(S:∀ a,t4 a=none->t3 a=none)(T:∀ a,q a=none->t4 a=none)(U:∀ a,H a=none->q a=none)
  (c:∀ a∈[K.pt,K.pl,K.tl,K.wl,K.rw],Dm Y a)
  (u:∀ a∈(K.s false).m::(K.s false).P::(K.s false).T::(v false).R::((K.s false).ts++((v false).rs++(v false).ps)),Y a=none/\Dm x a)
  (F:∀ a∈(K.s true).m::(K.s true).P::(K.s true).T::(v true).R::((K.s true).ts++((v true).rs++(v true).ps)),x a=none/\Dm t2 a)
  (I:t2 K.ml=none/\Dm t3 K.ml)
  (y:∀ a∈(K.s false).x::(K.s false).d::(K.s false).pa::(K.s false).ma::(v false).ra::((K.s false).pds++((K.s false).mks++(v false).rws)),t3 a=none/\Dm t4 a)
  (A:∀ a∈(K.s true).x::(K.s true).d::(K.s true).pa::(K.s true).ma::(v true).ra::((K.s true).pds++((K.s true).mks++(v true).rws)),t4 a=none/\Dm q a)
  (E:q K.fl=none/\Dm H K.fl) (hl:H K.hl=none):Tm (tmF [Y,x,t2,t3,t4,q,H]) K v:=by
 have Ja:∀ {a l n},x a=none->tmF l a=n->tmF (Y::x::l) a=n+2:=λe k=>I9 (O _ e) (I9 e k)
 have w:∀ {a l n},t2 a=none->tmF l a=n->tmF (Y::x::t2::l) a=n+3:=λe k=>Ja (P _ e) (I9 e k)
 have n3:∀ {a l n},t3 a=none->tmF l a=n->tmF (Y::x::t2::t3::l) a=n+4:=λe k=>w (R _ e) (I9 e k)
 have C:∀ {a l n},t4 a=none->tmF l a=n->tmF (Y::x::t2::t3::t4::l) a=n+5:=λe k=>n3 (S _ e) (I9 e k)
 have L:∀ {a l n},q a=none->tmF l a=n->tmF (Y::x::t2::t3::t4::q::l) a=n+6:=λe k=>C (T _ e) (I9 e k)
 exact⟨λa M=>L5 (c a M),w I.1 (L5 I.2),L E.1 (L5 E.2),L (U _ hl) (I9 hl rfl),λb=>by
  cases b with
  | false=>exact λa M=>I9 (u a M).1 (L5 (u a M).2)
  | true=>exact λa M=>Ja (F a M).1 (L5 (F a M).2),λb=>by
  cases b with
  | false=>exact λa M=>n3 (y a M).1 (L5 (y a M).2)
  | true=>exact λa M=>C (A a M).1 (L5 (A a M).2)⟩
section
variable{g:G}{o:Fo}{Q:V->Hp->Prop}
theorem BgAt.dm{n:Nat}{m P T R:Addr}{Ja ps:List Addr}(H:BgAt o Z n m P T R Ja rs ps):∀ a∈m::P::T::R::(Ja++(rs++ps)),Dm Z a:=λa ha=>by
 k_extra"e"
 ·rw[e];exact⟨_,H.hm⟩
 k_extra"e"
 ·rw[e];exact⟨_,H.hP⟩
 k_extra"e"
 ·rw[e];exact⟨_,H.hT⟩
 k_extra"e"
 ·rw[e];exact⟨_,H.hR⟩
 k_extra"cj"
 ·exact H.tB.dm a e
 k_extra"cA"
 ·exact H.rR.dm a e
 ·exact H.pS.dm a e
theorem BgAt.kp{n:Nat}{m P T R:Addr}{Ja ps:List Addr}(H:BgAt o Z n m P T R Ja rs ps)(k:∀ a∈m::P::T::R::(Ja++(rs++ps)),Kp Z Z' a):BgAt o Z' n m P T R Ja rs ps:=
 ⟨k _ (.head _) _ H.hm,k _ (.tail _ (.head _)) _ H.hP,k _ (.tail _ (.tail _ (.head _))) _ H.hT,k _ (.tail _ (.tail _ (.tail _ (.head _)))) _ H.hR,H.pS.kp λa M=>k _ (.tail _ (.tail _ (.tail _ (.tail _ (bk _ (bk _ M)))))),H.tB.kp λa M=>k _ (.tail _ (.tail _ (.tail _ (.tail _ (bu _ M))))),H.rR.kp λa M=>k _ (.tail _ (.tail _ (.tail _ (.tail _ (bk _ (bu _ M)))))),H.mP,H.m2,H.p2,H.nt,H.out⟩
theorem FlAt.dm{fm:V}{x d w u y:Addr}{K c q:List Addr}{R:List (List V)}(A:FlAt Z fm x d w u y K c q U T R):∀ a∈x::d::w::u::y::(K++(c++q)),Dm Z a:=λa ha=>by
 k_extra"e"
 ·rw[e];exact⟨_,A.hx⟩
 k_extra"e"
 ·rw[e];exact⟨_,A.hd⟩
 k_extra"e"
 ·rw[e];exact⟨_,A.hp⟩
 k_extra"e"
 ·rw[e];exact⟨_,A.hm⟩
 k_extra"e"
 ·rw[e];exact⟨_,A.hr⟩
 k_extra"cj"
 ·exact A.pd.dm a e
 k_extra"cA"
 ·exact A.mb.dm a e
 ·exact A.ro.dm a e
def FlN(o:Fo)(n:Nat)(τ:Hp)(x d:Addr)(Z':Hp):Prop:=
 ∀ u:Prop,(∀ (y w A:Addr) (K c q:List Addr),FlAt Z' o.fm x d y w A K c q (aC n []) (aC n (aC o.C.toNat false)) (k8 (o.f (aC n []) (aC n (aC o.C.toNat false))) o.rh.length n)->Sub τ Z'->NZ Z'->(∀ a∈x::d::y::w::A::(K++(c++q)),τ a=none)->u)->u
theorem vO(N:Nm g)(hD:16<=D)(F:FG o.rh o.tb o.C o.ow o.rk){n:Nat}{x d:Addr}(Za:1<=n)(E:n<=8)(nz:NZ τ)(q:τ d=none)(U:upd τ d (.na []) x=none)
  (h:∀ Z',FlN o n τ x d Z'->Q .none Z'):d8 g D true "File.__init__" [.ref x,o.fm,.int n] (upd (upd τ d (.na [])) x (.ob "File" d)) Q X:=by
 have s1:Sub τ (upd (upd τ d (.na [])) x (.ob "File" d)):=(Sub.upd q).trans (Sub.upd U);refine PL N hD F Za E (d6 _ _ _) (i4 (o:=.ob "File" d) (d6 τ d (.na [])) U) ((nz.upd rfl).upd rfl) λZ' L I M K u C A S y w=>h Z' λz_ H=>H L I M K u C A (λc Ja e=>S c Ja (j9 (j7 e q)) (s1 _ _ e)) y λa ha=>?_
 k_extra"e"
 ·rw[e];exact j4 (Sub.upd q) U
 k_extra"e"
 ·rw[e];exact q
 ·exact j4 s1 (w a ha)
end
def rLw(K:Kt)(o:Fo)(sa:Addr)(a4 a8 a9:Option V):Lo:=[some (.ref sa),some (.ref K.pt),some o.fm,some (.ref K.rw),a4,some (.ref K.ml),some (.ref K.fl),some (.ref K.hl),a8,a9]
section
variable{g:G}{o:Fo}{K:Kt}{v:Bool->Sv}{Q:V->Hp->Prop}{q:Addr->Prop}{a4 a8 a9:Option V}
theorem Il(p:Pk pq tab g 21 Q X cx)(W:Wd o K q Z v qs)(h:∀ Z',Q (.bool true) Z'):Bk.w true l6 cx [] (rLw K o sa a4 a8 a9) Z:=by
 have u:=W.hd.hh;k_extra"w";refine CLoop.g p (λw F Z'=>Z=Z'/\F=[]/\∀ x∈w,∃ a∈qs,x=.ref a) (by rw[aq];exact aj W.ql (aZ ..)) ⟨rfl,rfl,λx hx=>by refine a7 (aM.mp hx) λa M e=>?_;exact⟨a,M,e.symm⟩⟩ (λcx p v w F H hN=>?_) ?_
 ·k_extra"cM";subst y
  refine⟨u,?_⟩;refine a7 (hr v (.head _)) λa M Ja=>?_;subst Ja
  refine x5 (W.hd.pr a M) λb c l E C D A N=>?_
  k_extra"w";refine qW A (p.dd (by decide)) ?_
  k_extra"cd"
 ·k_extra"b8"
  refine⟨u,λb Y=>?_⟩
  k_extra"w";exact EqL.mk rfl rfl (nH (p.dd (by decide))) (p.h (h _))
set_option tactic.hygienic true in
theorem bB4(p:Pk pq tab g 21 Q X cx)(C:KtC o K)(W:Wd o K q Z v qs)(h:∀ Z',Q (.bool true) Z'):Ck.w true l6 cx [] (rLw K o sa a4 a8 a9) Z:=by
 k_extra"w";rename_i S y;refine LoopR.tmp y (Loop.g p (λu w Z'=>Wd o K q Z' v qs/\(∀ x∈u,∃ b:Bool,x=.int ((b2i b).toNat:Int))/\∃ a9,w=rLw K o sa a4 a8 a9) ⟨W,λx U=>?_,_,rfl⟩ (λcx p I v u F=>?_) ?_)
 ·rcases au.mp U with e | e
  ·exact⟨false,e⟩
  ·exact⟨true,aA.mp e⟩
 ·rintro _ Z D;obtain⟨W,A,a9,rfl⟩:=D
  k_extra"X";refine d4 (A v (.head _)) λb Ja=>?_;subst Ja
  have T:=W.kt.hf;have M:=W.kt.hm;have hp:=W.kt.hp;have H:=W.sd b;have R:=H.hm;have L:=H.hR;have Za:=C.F.o1;have E:=C.F.o0;have P:=C.F.l40;k_extra"w";refine i8 _ _ rfl (K7 λb=>V.ref (K.s b).x) K8 ?_
  refine H.A.m (by k_extra"#") ?_
  refine Ge p.N (p.dd (by decide)) C.F H.A H.Y.zz ?_
  k_extra"w";refine i8 _ _ rfl (K7 λb=>V.ref (K.s b).m) K8 ?_
  k_extra"w";refine xj p L H.rR (j:=o.ow.toNat) ((iC E).mpr Za) H.Y.zz (λcx p c l x O U k=>?_) λc O=>?_
  ·k_extra"w"
   exact i8 _ _ (bQ E).symm U (by lia) (k _)
  ·refine SumL.mk _ (d6 _ _ _) ?_
   k_extra"w";exact F ⟨W.kp (λa _=>Sub.upd O a) (W.nz.upd qD),λx U=>A x (.tail _ U),_,rfl⟩
 ·rintro _ Z D;obtain⟨W,-,a9,rfl⟩:=D
  exact⟨trivial,Stop.mk (Il p W h)⟩
set_option tactic.hygienic true in
theorem ch6(p:Pk pq tab g 21 Q X cx)(M:Scr g sa ns)(hl:ns.length<=63)(O:KtC o K)(W:Wd o K (λ_=>True) Z v [])(h:∀ Z',Q (.bool true) Z'):yf.w true l6 cx [] (rLw K o sa a4 a8 a9) Z:=by
 have Za:=p.e▸M;have F:(ns.map V.int).length=ns.length:=aq _;k_extra"w";refine x3 p (λi w Z'=>∃ (v:Bool->Sv) (qs:List Addr) (C E:Option V),Wd o K (λ_=>True) Z' v qs/\qs.length<=9*i/\w=rLw K o sa C E a9) ⟨v,[],_,_,W,aY _,rfl⟩ (λcx p I i L P=>?_) ?_
 ·k_extra"b5"
  have Za:=p.e▸M;have L:3+i<ns.length:=JM F L;k_extra"w";refine Idx.mk (by lia) (by assumption) (by lia) λx e=>?_
  rw[aB] at e;refine a7 (aR.mp e) λy _ Ja=>?_;subst Ja
  k_extra"bp"
  k_extra"w";rename_i D u;have H:=(W.dm (q':=(·≠D)) λa d _ e=>by refine d4 d λU d=>?_;rw[e,u] at d;cases d).kp (λa _=>Sub.upd (o:=.L [.int z]) u a) (W.nz.upd (o:=.L [.int z]) rfl)
  refine Qe p.N (p.dd (by decide)) O H ⟨e9.refl,H.nz,z,d6 _ _ _,z0,z1⟩ (by lia) λR S Y W2 T=>?_
  k_extra"w";exact P ⟨S,Y,_,_,W2.imp λ_ _=>trivial,by lia,rfl⟩
 ·k_extra"b5"
  exact Stop.mk (bB4 p O W h)
end
noncomputable def rst(Z:Hp)(l:List Addr):Hp:=λa=>bif l.contains a then Z a else none
theorem pF(h:a∈l):rst Z l a=Z a:=by unfold rst;rw[iz.mpr h];rfl
theorem wV:Sub (rst Z l) Z:=λa o e=>by
 unfold rst at e;cases q:l.contains a with
 | true=>rw[q] at e;exact e
 | false=>rw[q] at e;cases e
theorem by7(h:∀ a∈l,∃ o,Z a=some o/\nzO o=true):NZ (rst Z l):=λa o e=>by
 have k:=wV _ _ e;cases q:l.contains a with
 | true=>
  refine a7 (h a (iz.mp q)) λU c n=>?_
  rw[k] at c;rw[d7 c];exact n
 | false=>unfold rst at e;rw[q] at e;cases e
theorem JK:PmU (aC n []) (aC n []):=⟨rfl,fun{j s u} E C=>by
 rw[(dU.mp (aL E)).2,(dU.mp (aL C)).2];exact⟨.refl _,.nil⟩⟩
theorem Ei{o:Fo}{P T R:Addr}{K w y Ja ps:List Addr}(F:FG o.rh o.tb o.C o.ow o.rk)(O:1<=n)(E:n<=8)(B:BgAt o Z' n m P T R Ja rs ps)(s1:Sub Z' Z)(A:FlAt c o.fm x d I H M K w y (aC n []) (aC n (aC o.C.toNat false)) (k8 (o.f (aC n []) (aC n (aC o.C.toNat false))) o.rh.length n))(s2:Sub c Z) :
  SdAt o Z ⟨x,d,I,H,m,P,T,K,w,Ja⟩ ⟨M,R,y,rs,ps,aC n [],aC n [],aC n (aC o.C.toNat false)⟩:=by
 have B:=B.kp λa N=>s1 a
 have e:(aC n (aC o.C.toNat false)).length=n:=bK;refine⟨?_,B.hm,B.hP,B.hT,B.hR,?_,?_,?_,qI F.c0 E,?_,JK,λu L q C=>?_⟩
 ·show FlAt _ _ _ _ _ _ _ _ _ _ _ _ (k8 _ _ (aC n (aC o.C.toNat false)).length)
  rw[e];exact A.sub s2
 ·show PAt _ _ ((aC n []).map _)
  rw[fM];exact B.pS
 ·show PAt _ _ ((aC n (aC o.C.toNat false)).map _)
  rw[fM];exact B.tB
 ·show PAt _ _ (k8 _ _ (aC n (aC o.C.toNat false)).length)
  rw[e];exact B.rR
 ·show 1<=(aC n (aC o.C.toNat false)).length
  rw[e];exact O
 ·rw[(dU.mp L).2] at C;cases C
theorem Q8{P:Bool->Prop}(M:P false)(Za:P true)(b:Bool):P b:=by
 cases b with
 | false=>exact M
 | true=>exact Za
section
variable{g:G}{Q:V->Hp->Prop}
set_option tactic.hygienic true in
theorem Ye(N:Nm g)(hD:22<=D)(hs:Scr g sa ns)(hl:ns.length<=63)(h:∀ Z',Q (.bool true) Z'):d8 g D true "law" [.ref sa] Z Q X:=by
 refine bd N aX4 (by k_extra"b") hD λcx p=>?_
 have hs':Scr cx.g sa ns:=p.e▸hs;k_extra"w";refine KH p.N (p.dd (by decide)) hs' (by exact wi hl) (by decide) (by decide) λH pt pl tl wl A S ws C ow rk M u w y _ _ _ _ F l12 w5 w8 ww=>?_
 k_extra"w";refine bO7 p.N (p.dd (by decide)) u w F.form ?_
 have FF:=F.form;have nr:nzL A=true:=v4 λx hx=>Ao 8 (FF.rule x hx).ok
 have nt:nzL S=true:=v4 λx hx=>xH (F.tab x hx).1
 have ns1:nzL (ws.map V.str)=true:=v4 λx hx=>by refine a7 (aM.mp hx) λc _ qa=>?_;subst qa;rfl
 refine Drop.mk (Z':=rst H [pt,pl,tl,wl]) wV ?_;have nz:NZ (rst H [pt,pl,tl,wl]):=by7 λa ha=>by
  k_extra"e"
  ·rw[e];exact⟨_,M,rfl⟩
  k_extra"e"
  ·rw[e];exact⟨_,u,nr⟩
  k_extra"e"
  ·rw[e];exact⟨_,w,nt⟩
  ·rw[aA.mp ha];exact⟨_,y,ns1⟩
 replace M:=(pF (Z:=H) (l:=[pt,pl,tl,wl]) (.head _)).trans M
 replace u:=(pF (Z:=H) (l:=[pt,pl,tl,wl]) (.tail _ (.head _))).trans u
 replace w:=(pF (Z:=H) (l:=[pt,pl,tl,wl]) (.tail _ (.tail _ (.head _)))).trans w
 replace y:=(pF (Z:=H) (l:=[pt,pl,tl,wl]) (.tail _ (.tail _ (.tail _ (.head _))))).trans y
 generalize rst H [pt,pl,tl,wl]=Z2 at nz M u w y ⊢;clear nr nt ns1 FF;k_extra"w";refine Kf p.N (p.dd (by decide)) F λrv O hrw tp ol=>?_
 replace nz:=nz.upd (a:=rv) (o:=.L (O.map .int)) qD
 replace M:=i4 (o:=.L (O.map .int)) M hrw
 replace u:=i4 (o:=.L (O.map .int)) u hrw
 replace w:=i4 (o:=.L (O.map .int)) w hrw
 replace y:=i4 (o:=.L (O.map .int)) y hrw
 have hr:=d6 Z2 rv (.L (O.map .int));generalize upd Z2 rv (.L (O.map .int))=Z3 at nz M u w y hr ⊢;have hs':Scr cx.g sa ns:=p.e▸hs;k_extra"w";refine wW p.N (p.dd (by decide)) hs' (by exact wi hl) (by decide) (by decide) λx=>?_
 k_extra"bp"
 k_extra"w";rename_i st hst;have k0:∀ {a o'},Z3 a=some o'->upd Z3 st (.L [.int z]) a=some o'/\a≠st:=λe=>⟨i4 e hst,j7 e hst⟩
 have a1:=k0 M;have a2:=k0 u;have a3:=k0 w;have a4:=k0 y;have q:=k0 hr;have est:=d6 Z3 st (.L [.int z]);have nz0:=nz.upd (a:=st) (o:=.L [.int z]) rfl;generalize upd Z3 st (.L [.int z])=t0 at a1 a2 a3 a4 q est nz0 ⊢;clear k0 M u w y hr nz hst;obtain⟨o,rfl,rfl,rfl,rfl,rfl,e4⟩:∃ o:Fo,o.rh=A/\o.tb=S/\o.C=C/\o.ow=ow/\o.rk=rk/\o.W4=ws.take 4:=⟨⟨A,S,C,ow,rk,ws.take 4⟩,rfl,rfl,rfl,rfl,rfl,rfl⟩;refine Ds p.N (p.dd (by decide)) F q.1 tp ol ⟨e9.refl,nz0,z,est,z0,z1⟩ q.2 λt1 n0 m0 P0 T0 R0 ts0 rs0 ps0 n01 n08 Za1 B0 w0=>?_
 have b1:=Za1.stay _ _ (j9 a1.2) a1.1;k_extra"w";refine Ds p.N (p.dd (by decide)) F (Za1.stay _ _ (j9 q.2) q.1) tp ol Za1.re q.2 λt2 n1 m1 P1 T1 R1 ts1 rs1 ps1 n11 n18 Za2 Y w1=>?_
 have R:∀ a,a≠st->Kp t0 t2 a:=λa h o' e=>Za2.stay _ _ (j9 h) (Za1.stay _ _ (j9 h) e)
 have B0':BgAt o t2 n0 m0 P0 T0 R0 ts0 rs0 ps0:=B0.kp λa ha o' e=>Za2.stay _ _ (j9 (j7 est (w0 a ha)).symm) e
 have q1:=B0'.hm;have q2:=B0'.hP;have q3:=Y.hm;have q4:=Y.hP;have lp0:(ps0.map V.ref).length=n0:=by rw[aq,B0.pS.len,bK]
 have lp1:(ps1.map V.ref).length=n1:=by rw[aq,Y.pS.len,bK]
 k_extra"w";rename_i ml hml;have ql:=d6 t2 ml (.L [.ref m0,.ref m1]);have P:Sub t2 (upd t2 ml (.L [.ref m0,.ref m1])):=Sub.upd hml;have nz3:=Za2.nz.upd (a:=ml) (o:=.L [.ref m0,.ref m1]) rfl;have dml:Dm (upd t2 ml (.L [.ref m0,.ref m1])) ml:=⟨_,ql⟩;generalize upd t2 ml (.L [.ref m0,.ref m1])=t3 at ql P nz3 dml ⊢;refine Req.mk (p.dd (by decide)) λd0 hd0 T hx0=>?_
 rw[lp0];refine vO p.N (lD (p.dd (by decide))) F n01 n08 nz3 hd0 hx0 λt4 f0=>⟨rfl,?_⟩
 refine f0 _ ?_;clear f0;intro pa0 ma0 ra0 pds0 mks0 rws0 A0 Ja nz4 v0;have ql:=Ja _ _ ql;have q3:=Ja _ _ (P _ _ q3);have q4:=Ja _ _ (P _ _ q4);k_extra"w";refine Req.mk (p.dd (by decide)) λd1 hd1 U hx1=>?_
 rw[lp1];refine vO p.N (lD (p.dd (by decide))) F n11 n18 nz4 hd1 hx1 λt5 f1=>⟨rfl,?_⟩
 refine f1 _ ?_;clear f1;intro pa1 ma1 ra1 pds1 mks1 rws1 A1 s45 nz5 v1;k_extra"w";rename_i L hfl I Za;have hf6:=i4 (o:=.L []) (d6 t5 L (.L [.ref T,.ref U])) Za;have hh7:=d6 (upd t5 L (.L [.ref T,.ref U])) I (.L []);have s56:Sub t5 (upd t5 L (.L [.ref T,.ref U])):=Sub.upd hfl;have s67:Sub (upd t5 L (.L [.ref T,.ref U])) (upd (upd t5 L (.L [.ref T,.ref U])) I (.L [])):=Sub.upd Za;have dfl:Dm (upd t5 L (.L [.ref T,.ref U])) L:=⟨_,d6 _ _ _⟩;have nz7:=(nz5.upd (a:=L) (o:=.L [.ref T,.ref U]) rfl).upd (a:=I) (o:=.L []) rfl;generalize upd (upd t5 L (.L [.ref T,.ref U])) I (.L [])=t7 at hf6 hh7 s67 nz7 ⊢;generalize upd t5 L (.L [.ref T,.ref U])=t6 at Za s56 s67 dfl;have s47:Sub t4 t7:=s45.trans (s56.trans s67);have E:Sub t2 t7:=P.trans (Ja.trans s47);have kt:KtAt o ⟨L,ml,I,pt,pl,tl,wl,rv,λb=>bif b then⟨U,d1,pa1,ma1,m1,P1,T1,pds1,mks1,ts1⟩ else⟨T,d0,pa0,ma0,m0,P0,T0,pds0,mks0,ts0⟩,ws,O⟩ t7:=⟨hf6,s47 _ _ ql,E _ _ (R _ a1.2 _ a1.1),E _ _ (R _ a2.2 _ a2.1),E _ _ (R _ a3.2 _ a3.1),E _ _ (R _ a4.2 _ a4.1),E _ _ (R _ q.2 _ q.1)⟩
 refine a7 Za1.hst λy1 ey1 _=>a7 Za2.hst λy2 ey2 _=>?_
 have tm:=Lj (v:=λb=>bif b then⟨ra1,R1,rws1,rs1,ps1,aC n1 [],aC n1 [],aC n1 (aC o.C.toNat false)⟩ else⟨ra0,R0,rws0,rs0,ps0,aC n0 [],aC n0 [],aC n0 (aC o.C.toNat false)⟩) (K:=⟨L,ml,I,pt,pl,tl,wl,rv,λb=>bif b then⟨U,d1,pa1,ma1,m1,P1,T1,pds1,mks1,ts1⟩ else⟨T,d0,pa0,ma0,m0,P0,T0,pds0,mks0,ts0⟩,ws,O⟩)
  (λa=>G2 Za1.stay ey1) (λa=>G2 Za2.stay ey2) (λa=>j4 P) (λa=>j4 Ja) (λa=>j4 s45) (λa=>j4 s56) (λa ha=>by
   k_extra"e"
   ·rw[e];exact⟨_,a1.1⟩
   k_extra"e"
   ·rw[e];exact⟨_,a2.1⟩
   k_extra"e"
   ·rw[e];exact⟨_,a3.1⟩
   k_extra"e"
   ·rw[e];exact⟨_,a4.1⟩
   ·rw[aA.mp ha];exact⟨_,q.1⟩)
  (λa ha=>⟨w0 a ha,B0.dm a ha⟩) (λa ha=>⟨w1 a ha,Y.dm a ha⟩) ⟨hml,dml⟩ (λa ha=>⟨v0 a ha,A0.dm a ha⟩) (λa ha=>⟨v1 a ha,A1.dm a ha⟩) ⟨hfl,dfl⟩ Za
 exact Stop.mk (ch6 p hs hl ⟨F,tp,ol,w5,w8,ww,e4⟩ (Mf tm kt (Q8 (Ei F n01 n08 B0' E A0 s47) (Ei F n11 n18 Y E A1 (s56.trans s67))) nz7 hh7 (Q8 B0.mP Y.mP) (Q8 B0.m2 Y.m2) (Q8 B0.p2 Y.p2) (Q8 B0.nt Y.nt) (Q8 B0.out Y.out)) h)
end
noncomputable def fnT(p:Program)(ks:List Nat):Tab:=ks.map λk=>((dAt p k).name,.fn k)
theorem TabOK.fns{g:G}{ks:List Nat}{T:Tab}(h:∀ k∈ks,P7 g (dAt g.prog k).name (.fn k))(r:TabOK g T):TabOK g (fnT g.prog ks++T):=by
 induction ks with
 | nil=>exact r
 | cons k ks ih=>exact .cons (h k (.head _)) (ih λj hj=>h j (.tail _ hj))
theorem TabOK.mts{g:G}{l:List α}{x:α->Str}{k:α->Nat}{T:Tab}(h:∀ p∈l,P7 g (x p) (.mth (k p)))(r:TabOK g T):TabOK g (l.map (λp=>(x p,.mth (k p)))++T):=by
 induction l with
 | nil=>exact r
 | cons k ks ih=>exact .cons (h k (.head _)) (ih λj hj=>h j (.tail _ hj))
noncomputable def itV:Item->Value
 | .bi id=>.builtin id
 | .ty id=>.type id
 | _=>.none
noncomputable def isB:Item->Bool
 | .bi _=>true
 | .ty _=>true
 | _=>false
theorem TabOK.bis{g:G}{T:Tab}(h:∀ p∈T,Bi g p.1 (itV p.2))(k:∀ p∈T,isB p.2=true):TabOK g T:=by
 induction T with
 | nil=>exact .nil
 | cons p T ih=>
  have r:=ih (λq hq=>h q (.tail _ hq)) λq hq=>k q (.tail _ hq)
  have h1:=h p (.head _);have k1:=k p (.head _);obtain⟨x,it⟩:=p;cases it with
  | bi id=>exact .cons h1 r
  | ty id=>exact .cons h1 r
  | _=>cases k1
open PySem.W
theorem VL{g:G}{a:Addr}{vs:List Value}(hl:g.h₀.IsList a vs.toArray)(hi:PyProof.Rows.IntsAre vs ns):Scr g a ns:=by
 refine⟨vs.toArray,hl,λh=>?_⟩
 rw[lG];clear hl;induction hi with
 | nil=>exact .nil
 | cons n t r ih=>exact .cons (.int n t) ih
theorem fin(l:OpenLaw){w:World}{sx:Shared}(g:G)(hp:g.prog=l.prog)(hw:g.w=w)(hh:g.h₀=sw.heap)(hg:sw.gens=#[]){fa a:Addr}{d:Nat}(hd:d<=100){f:Str}(hf:g.mg f=some (.ref fa))
  (c:d8 g d true f [.ref a] (λN=>none) (λv N=>v=.bool true) noX) {args:List WData} :
  wpAny (model l.row.prog w) callerA (call (.ref fa) [.ref a]) (λv s'=>GoodWG l.row.claim (classAt sx.heap) (ExcName.means sx.heap) args sw (.ok (.ret v)) s') (λe s'=>GoodWG l.row.claim (classAt sx.heap) (ExcName.means sx.heap) args sw (.error e) s') sw:=by
 subst hw;have e:l.row.prog=g.prog:=hp.symm;rw[e];refine enter_call (mq (c callerA sw [.ref a] fa (G.fn_of hf) ?_ ?_ (λN=>rfl) ⟨by rw[hh];exact λN N e=>e,λN N e=>by cases e⟩ (λN k_=>k_ [] rfl (λN h=>nomatch h)) (.cons (.ref a) .nil)) λr s' p=>?_)
 ·have:callerA.depth=301:=rfl
  have:recursionLimit=1000:=rfl
  omega
 ·have:callerA.units=4:=rfl
  have:cLine=9900:=rfl
  omega
 cases r with
 | error e=>refine p _ ?_;intro _ _ _ _ _ q;exact q.elim
 | ok f=>cases f with
  | ret v=>
   refine p _ ?_;intro V Z' rv sm st hv;subst hv;obtain rfl:=rv.ofBool;refine GoodW.toG ⟨.inl ⟨_,.bool true,[],rfl,λN=>rfl,.bool true,?_,λN=>⟨.nil,λN h=>nomatch h⟩⟩,λb o hb=>sm.stays b o (by rw[hh];exact hb),st.same.2,st.same.1.trans hg⟩
   with_unfolding_all rfl
  | _=>exact p.elim
noncomputable def zQ(e:DictEntry):Bool:=match e.key with
 | .str _ _=>true
 | _=>false
noncomputable def Fw:List Str:="__init__" :: x8
noncomputable def nsB(M:Array DictEntry):Bool:=M.all zQ&&Fw.all λn=>(nsFind M n).isNone
def W0(h:Heap)(N:Addr):Prop:=
 ∀ c:Prop,(∀ (m:Str->Option Value) (w:h.Ns N m) (u:m "__init__" = none) (O:∀ n∈x8,m n=none),c)->c
set_option tactic.hygienic true in
theorem E3{N:Addr}{ep:Nat}(P:h.get? N=some o)(u:o.data=.dict M ep)(Y:nsB M=true):W0 h N:=by
 refine d5 ((cG _ _).mp Y) λZa S=>?_
 have k:∀ n∈Fw,nsFind M n=none:=λn c=>cV.mp (bc.mp S n c)
 refine(λ_ A=>A (nsFind M) ⟨o,M,ep,P,u,λe w=>?_,λ_=>rfl⟩ (k _ (.head _)) (λn c=>k n (.tail _ c)))
 obtain⟨i,y,rfl⟩:=Array.mem_iff_getElem.mp w;have:=Array.all_eq_true.mp Za i y;unfold zQ at this
 split at this
 ·rename_i n t e;exact⟨n,t,e⟩
 ·cases this
section
variable{g:G}{x nm q nm' q':Str}{C N C' N':Addr}{bs bs':List Value}{hdct hdct':Bool}{sn sn':List Str}{sub sub':List Value}{ab ab':Bool}{col col':Option Bool}{dd dd':Option Addr}{k0 k1 k2 k3 k5 k0' k1' k2' k3' k5':Option Value}{newId:String}
theorem Ql(Y:g.mg x=some (.ref C))(L:g.h₀.get? C=some (excClassObj nm q C N bs vbm hdct sn sub ab col dd k0 k1 k2 k3 k5 "ValueError.__new__"))(c:W0 g.h₀ N):XC g x C vbm:=by
 refine c _ ?_;clear c;rintro m w u O;exact⟨Y,λz_ y=>y N nm q bs hdct sn sub ab col dd k0 k1 k2 k3 k5 m L w u O .base .base⟩
theorem F6(u:g.h₀.get? C'=some (excClassObj nm' q' C' N' bs' vbm hdct' sn' sub' ab' col' dd' k0' k1' k2' k3' k5' newId))(c:W0 g.h₀ N')
  (Y:g.mg x=some (.ref C)) (L:g.h₀.get? C=some (excClassObj nm q C N bs (.ref C'::vbm) hdct sn sub ab col dd k0 k1 k2 k3 k5 "ValueError.__new__")) (D:W0 g.h₀ N):XC g x C (.ref C'::vbm):=by
 refine D _ ?_;clear D;rintro m F E O;refine c _ ?_;clear c;rintro w T A y;exact⟨Y,λz_ H=>H N nm q bs hdct sn sub ab col dd k0 k1 k2 k3 k5 m L F E O (.own u T A .base) (.own u T y .base)⟩
end
set_option maxHeartbeats 8000000
open PySem PySem.W PyProof.Rows
noncomputable def mA(x:Str):Addr:=((mL.find? λm=>aa m.q==x).map (·.f)).getD 0
noncomputable def mtF(x:Str):Option Value:=some (.ref (mA x))
noncomputable def mNs:List (Str×Str):=mL.map λm=>(aa m.nm,aa m.q)
noncomputable def aNs:List Str:=["form","papers","marks","rows"]
noncomputable def bR4:List (Str×Nat×Int×Nat):=[("number",406,2,407),("paper",408,2,409),("line",410,2,411),("earlier",412,2,413),("add",414,3,415),("take",416,3,417),("least",418,3,419),("most",420,3,421),("part",422,3,423),("table",424,3,425),("where",426,4,427),("choose",428,4,429)]
section
variable{w:World}{mg mb:Str->Option Value}{h:Heap}(g1:h.Ns mainGlobals mg)(g2:h.Ns builtinsNs mb)(g3:h.NoLimit)(K:(myK w.params).In h)
variable(w) in
noncomputable abbrev gH:G:=⟨mJ,w,h,mg,mb,g1,g2,g3,mtF⟩
include g1 K in
theorem n3{x:Str}{v:Option Value}(e:nsFind (qG w.params) x=v):mg x=v:=(uC g1 (K 3 (o3 w.params) rfl) rfl _).trans e
include K
theorem cf:W0 h 23:=E3 (K 23 _ rfl) rfl (by kernel_rfl)
theorem gd:Gd (gH w g1 g2 g3) (aa "SIZES") szs:=by
 refine⟨169,?_,?_⟩
 ·have h3:=K 3 (o3 w.params) rfl
  exact(uC g1 h3 rfl _).trans (by kernel_rfl)
 ·exact Mg (n:=12) bR4 (by k_extra"#") (by k_extra"#") (K 169 _ rfl)
theorem Xr:XC (gH w g1 g2 g3) (aa "FormError") 24 vbm:=Ql (n3 g1 K (by kernel_rfl)) (K 24 _ rfl) (cf K)
theorem bw1:XC (gH w g1 g2 g3) (aa "NoTable") 37 (.ref 24::vbm):=F6 (K 24 _ rfl) (cf K) (n3 g1 K (by kernel_rfl)) (K 37 _ rfl) (E3 (K 36 _ rfl) rfl (by kernel_rfl))
theorem Ml:XC (gH w g1 g2 g3) (aa "NoForm") 49 (.ref 24::vbm):=F6 (K 24 _ rfl) (cf K) (n3 g1 K (by kernel_rfl)) (K 49 _ rfl) (E3 (K 48 _ rfl) rfl (by kernel_rfl))
theorem ba8:XC (gH w g1 g2 g3) (aa "NoRule") 61 (.ref 24::vbm):=F6 (K 24 _ rfl) (cf K) (n3 g1 K (by kernel_rfl)) (K 61 _ rfl) (E3 (K 60 _ rfl) rfl (by kernel_rfl))
theorem TX:XC (gH w g1 g2 g3) (aa "Ring") 73 (.ref 24::vbm):=F6 (K 24 _ rfl) (cf K) (n3 g1 K (by kernel_rfl)) (K 73 _ rfl) (E3 (K 72 _ rfl) rfl (by kernel_rfl))
theorem ZJ:XC (gH w g1 g2 g3) (aa "NoPaper") 85 (.ref 24::vbm):=F6 (K 24 _ rfl) (cf K) (n3 g1 K (by kernel_rfl)) (K 85 _ rfl) (E3 (K 84 _ rfl) rfl (by kernel_rfl))
theorem Pj:XC (gH w g1 g2 g3) (aa "NoYear") 97 (.ref 24::vbm):=F6 (K 24 _ rfl) (cf K) (n3 g1 K (by kernel_rfl)) (K 97 _ rfl) (E3 (K 96 _ rfl) rfl (by kernel_rfl))
theorem Hn:XC (gH w g1 g2 g3) (aa "NoLine") 109 (.ref 24::vbm):=F6 (K 24 _ rfl) (cf K) (n3 g1 K (by kernel_rfl)) (K 109 _ rfl) (E3 (K 108 _ rfl) rfl (by kernel_rfl))
theorem Ti:XC (gH w g1 g2 g3) (aa "NoChoice") 121 (.ref 24::vbm):=F6 (K 24 _ rfl) (cf K) (n3 g1 K (by kernel_rfl)) (K 121 _ rfl) (E3 (K 120 _ rfl) rfl (by kernel_rfl))
theorem Yn:XC (gH w g1 g2 g3) (aa "TooMany") 133 (.ref 24::vbm):=F6 (K 24 _ rfl) (cf K) (n3 g1 K (by kernel_rfl)) (K 133 _ rfl) (E3 (K 132 _ rfl) rfl (by kernel_rfl))
theorem Bt:∀ m∈mL,(gH w g1 g2 g3).fn (aa m.q)=some (.ref m.f):=λm hm=>by
 have e:mg (aa m.q)=none:=(uC g1 (K 3 (o3 w.params) rfl) rfl _).trans (dz.mp (show mL.map (λm=>nsFind (qG w.params) (aa m.q))=mL.map (λz_=>none) by kernel_rfl) m hm)
 unfold G.fn;dsimp only
 rw[e];exact congrArg (λa=>some (Value.ref a)) (dz.mp (show mL.map (λm=>mA (aa m.q))=mL.map (λm=>m.f) by kernel_rfl) m hm)
theorem Iu:OCl (gH w g1 g2 g3) (aa "File") aNs mNs:=⟨λz_ k_=>k_ 362 (myK w.params) _ ⟨(n3 g1 K (by kernel_rfl)),K,(by kernel_rfl:clsIn (myK w.params) 362=some {name:=aa "File",bases:=[.type "object"],mro:=[.ref 362,.type "object"],ns:=361,qualname:=aa "File"}),rfl,by kernel_rfl,by kernel_rfl,by kernel_rfl⟩ (by kernel_rfl) (by kernel_rfl) (by kernel_rfl)
 (dz.mp (show aNs.map (λn=>findIn (myK w.params) (.ref 362) n)=aNs.map (λz_=>some none) by kernel_rfl)) λp hp=>by
  obtain⟨m,hm,rfl⟩:=aM.mp hp;exact⟨m.f,dz.mp (show mL.map (λm=>findIn (myK w.params) (.ref 362) (aa m.nm))=mL.map (λm=>some (some (.ref m.f))) by kernel_rfl) m hm,dz.mp (show mL.map (λm=>typeIn (myK w.params) (.ref m.f))=mL.map (λz_=>some (.type "function")) by kernel_rfl) m hm,Bt g1 g2 g3 K m hm⟩⟩
theorem bV9:∀ m∈mL,P7 (gH w g1 g2 g3) (aa m.q) (.mth m.k):=λm hm=>⟨λz_ k_=>k_ _ _ _ _ _ _ _ (Bt g1 g2 g3 K m hm)
 (K _ _ (dz.mp (show mL.map (λm=>(myK w.params).lookup m.f)=mL.map (λm=>some (fnM m)) by kernel_rfl) m hm)) rfl
 ⟨m.c,coM m,_,_,rfl,K _ _ (dz.mp (show mL.map (λm=>(myK w.params).lookup m.c)=mL.map (λm=>some (coM m)) by kernel_rfl) m hm),rfl,rfl⟩⟩
end
noncomputable def pX:List Nat:=[14,15,16,17,18,24,25,26,27,28,29,30,35,36,37,38,39,41,42,43,44,45,46,47]
noncomputable def oA:List Nat:=[52,53,54,55,56,57,58,59,60,61,62,63,64,65,66,67,68,69,70,71,72,73,74,75,76,77,78,79,80,81]
noncomputable def bT:Tab:=[(aa "ValueError",.ty "ValueError"),(aa "all",.bi "all"),(aa "bool",.ty "bool"),(aa "dict",.ty "dict"),(aa "int",.ty "int"),(aa "isinstance",.bi "isinstance"),(aa "len",.bi "len"),(aa "list",.ty "list"),(aa "max",.bi "max"),(aa "min",.bi "min"),(aa "range",.ty "range"),(aa "set",.ty "set"),(aa "sorted",.bi "sorted"),(aa "str",.ty "str"),(aa "sum",.bi "sum"),(aa "tuple",.ty "tuple"),(aa "zip",.ty "zip")]
theorem Um:recsOf viw=(pX++oA).map (dAt mJ):=by kernel_rfl
noncomputable def tR:Tab:=(aa "DEEPEST",.int 8)::(aa "File",.ob aNs mNs)::(aa "FormError",.cls 24 (vbm))::(aa "GREATEST",.int 1000000000)::(aa "LETTERS",.str "abcdefghijklmnopqrstuvwxyz")::(aa "LONGEST",.int 8)::(aa "MOST_CHOICES",.int 8)::(aa "MOST_LINES",.int 40)::(aa "MOST_ROWS",.int 20)::(aa "MOST_TABLES",.int 5)::(aa "MOST_YEARS",.int 8)::(aa "NoChoice",.cls 121 (.ref 24::vbm))::(aa "NoForm",.cls 49 (.ref 24::vbm))::(aa "NoLine",.cls 109 (.ref 24::vbm))::(aa "NoPaper",.cls 85 (.ref 24::vbm))::(aa "NoRule",.cls 61 (.ref 24::vbm))::(aa "NoTable",.cls 37 (.ref 24::vbm))::(aa "NoYear",.cls 97 (.ref 24::vbm))::(aa "Ring",.cls 73 (.ref 24::vbm))::(aa "SIZES",.dict szs)::(aa "TooMany",.cls 133 (.ref 24::vbm))::bT
noncomputable def mT:Tab:=mL.map λm=>(aa m.q,.mth m.k)
theorem Mv:fnT mJ pX++(mT++(fnT mJ oA++tR))=tab:=by kernel_rfl
theorem X5:∀ p∈bT,p.1∉startupNames/\p.1∉looseW viw [aa "SIZES"]/\p.1∉(recsOf viw).map (·.name)/\p.1∉(litsOf viw).map (·.1)/\p.1∉(clssOf viw (looseW viw [aa "SIZES"])).map (·.name):=by k_extra"#"
theorem QD:∀ p∈bT,p.1≠"__name__":=by k_extra"#"
theorem cs1:∀ p∈bT,isB p.2=true:=by k_extra"#"
theorem WL:∀ p∈bT,bootBuiltins p.1=some (itV p.2):=dz.mp (show bT.map (λp=>bootBuiltins p.1)=bT.map (λp=>some (itV p.2)) by kernel_rfl)
set_option tactic.hygienic true in
theorem hdw:PySem.Challenge.rw_uf010038_10.Holds:=by
 w_on
 refine holds_law qP λqP=>?_
 refine holds_open (q:=viw) (loose:=[aa "SIZES"]) (Xt:=su) (XP:=XL viw []) (Yf:=Hook.obs (kHook myK [3,169,24,23,37,36,49,48,61,60,73,72,85,84,97,96,109,108,121,120,133,132,362,361,300,299,305,304,312,311,319,318,326,325,333,332,340,339,347,346,352,351,359,358] (λ_=>rfl))) (Ya:=Hook.val (kHook myK [3,169,24,23,37,36,49,48,61,60,73,72,85,84,97,96,109,108,121,120,133,132,362,361,300,299,305,304,312,311,319,318,326,325,333,332,340,339,347,346,352,351,359,358] (λ_=>rfl))) (YP:=Hook.says (kHook myK [3,169,24,23,37,36,49,48,61,60,73,72,85,84,97,96,109,108,121,120,133,132,362,361,300,299,305,304,312,311,319,318,326,325,333,332,340,339,347,346,352,351,359,358] (λ_=>rfl))) (d:=dAt mJ 81) (kwd:=[]) (N:=5000) left (Hook.of (kHook myK [3,169,24,23,37,36,49,48,61,60,73,72,85,84,97,96,109,108,121,120,133,132,362,361,300,299,305,304,312,311,319,318,326,325,333,332,340,339,347,346,352,351,359,358] (λ_=>rfl))) (Hook.keeps (kHook myK [3,169,24,23,37,36,49,48,61,60,73,72,85,84,97,96,109,108,121,120,133,132,362,361,300,299,305,304,312,311,319,318,326,325,333,332,340,339,347,346,352,351,359,358] (λ_=>rfl))) (λs e=>xl_of s (bF.mp e).1) XL.keeps (by kernel_rfl) (by kernel_rfl) (by kernel_rfl) (λs e=>recFacts_of (bF.mp e).2) (by kernel_rfl) qP (by kernel_rfl) ⟨rfl,rfl,rfl,rfl,rfl,by k_extra"#"⟩ ?hw ?hc
 case hw=>w_witness2
 intro w sx sw mg mb G Y fa o pm cd doc dV kV ho hd hcd hD hmg hg args vals as hpre hlay hrd hwl hlo;have KX:=kIn_of Y;refine Ground.open G ?_;intro T B D TE TW;clear hd hcd hD ho B D TE TW G Y
 wrow_args hpre hlay hrd hwl hlo
 rename_i ns _ _ _ _ _ _ _ a vs _ hL _ _ _ hI _ hlen _;have gi:∀ x i,valOf viw x=some (.int i)->Gi (gH w T.g T.b T.nolimit) x i:=λx i hx=>by
  k_extra"bP"
 have gs:∀ x i,valOf viw x=some (.str i)->Gs (gH w T.g T.b T.nolimit) x i:=λx i hx=>by
  k_extra"bP"
 have N:TabOK (gH w T.g T.b T.nolimit) tR:=
  .cons (gi _ _ (by kernel_rfl)) <|
  .cons (Iu T.g T.b T.nolimit KX) <|
  .cons (Xr T.g T.b T.nolimit KX) <|
  .cons (gi _ _ (by kernel_rfl)) <|
  .cons (gs _ _ (by kernel_rfl)) <|
  .cons (gi _ _ (by kernel_rfl)) <|
  .cons (gi _ _ (by kernel_rfl)) <|
  .cons (gi _ _ (by kernel_rfl)) <|
  .cons (gi _ _ (by kernel_rfl)) <|
  .cons (gi _ _ (by kernel_rfl)) <|
  .cons (gi _ _ (by kernel_rfl)) <|
  .cons (Ti T.g T.b T.nolimit KX) <|
  .cons (Ml T.g T.b T.nolimit KX) <|
  .cons (Hn T.g T.b T.nolimit KX) <|
  .cons (ZJ T.g T.b T.nolimit KX) <|
  .cons (ba8 T.g T.b T.nolimit KX) <|
  .cons (bw1 T.g T.b T.nolimit KX) <|
  .cons (Pj T.g T.b T.nolimit KX) <|
  .cons (TX T.g T.b T.nolimit KX) <|
  .cons (gd T.g T.b T.nolimit KX) <|
  .cons (Yn T.g T.b T.nolimit KX) <|
  TabOK.bis (λp hp=>⟨T.free p.1 (X5 p hp).1 (X5 p hp).2.1 (X5 p hp).2.2.1 (X5 p hp).2.2.2.1 (X5 p hp).2.2.2.2,(T.builtins p.1 (QD p hp)).trans (WL p hp)⟩) cs1
 have fn:∀ k∈pX++oA,P7 (gH w T.g T.b T.nolimit) (dAt mJ k).name (.fn k):=λk hk=>by
  obtain⟨a,o,pm,code,doc,h1,h2,h3,h4⟩:=T.fn _ (show dAt mJ k∈recsOf viw from Um▸aM.mpr ⟨k,hk,rfl⟩)
  exact⟨⟨λ_ k_=>k_ a o _ _ pm code doc (G.fn_of h1) h2 h3 h4⟩,_,h1⟩
 have N:=TabOK.fns (ks:=oA) (λk hk=>fn k (bk _ hk)) N
 have N:=TabOK.mts (l:=mL) (x:=λm=>aa m.q) (k:=λm=>m.k) (bV9 T.g T.b T.nolimit KX) N
 have N:=TabOK.fns (ks:=pX) (λk hk=>fn k (bu _ hk)) N
 have N:Nm (gH w T.g T.b T.nolimit):=⟨rfl,Mv▸N⟩;exact Internal.fin PySem.Challenge.rw_uf010038_10 (gH w T.g T.b T.nolimit) rfl rfl rfl hg (d:=22) (by decide) hmg (Internal.Ye N (aV _) (Internal.VL hL hI) (by omega) λ_=>rfl)
end
end Internal
theorem PySem.Challenge.cw_uf010038_10_holds : PySem.Challenge.rw_uf010038_10.Holds :=
 Internal.hdw