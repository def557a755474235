import PyProof.Rows.All
import PyProof.Raises
import PyProof.Calls
import PyProof.RulesRaise
import PyProof.Rules2
import PyProof.AssignAttr
import PyProof.Ns1
import PyProof.Ends
import PyProof.Rows.Frame
import PyProof.AttrMissSeq
import PyProof.Rules3
import PyProof.SeqI
import PyProof.CallRoads
import PyProof.Cells
import PyProof.CompMap
import PyProof.CompUse
import PyProof.ConsumeWalk
import PyProof.WalksS
import PyProof.CollectWalk
import PyProof.StrLoop
import PyProof.StrWalks
import PyProof.CompFree
import PyProof.PureInt
import PyProof.Conv_int_bool
import PyProof.DefCall
import PyProof.Dict
import PyProof.MeetsSeq
import PyProof.ListOps
import PyProof.DictKinds
import PyProof.DictList
import PyProof.DictRoads
import PyProof.DictCalls
import PyProof.DictStraight
import PyProof.DictDisplay
import PyProof.DictItems
import PyProof.DictTable
import PyProof.NeData
import PyProof.ExcArgsOwn
import PyProof.ExcBaseAll.ValueError
import PyProof.RaisesMany
import PyProof.StationsW
import PyProof.StrLawsIn
import PyProof.SliceStr2
import PyProof.StrBlock
import PyProof.RangeIter
import PyProof.WalksMore
import PyProof.RangeFor
import PyProof.IsInstance
import PyProof.IsiHeapPairs
import PyProof.IsiNone
import PyProof.IsiPairs
import PyProof.IsiTupleOf
import PyProof.LetGo
import PyProof.ListCopy
import PyProof.ListIndexNeg
import PyProof.ListRange
import PyProof.RulesAs
import PyProof.P3In
import PyProof.Rows.Tup
import PyProof.Rows.TupAssign
import PyProof.Rows.TupSub
import PyProof.Rows.StrInSeq
import PyProof.Rows.DictRows
import PyProof.StrLawsIdx
import PyProof.SetKind
import PyProof.ZipIter
import PyProof.TupleCall
import PyProof.Rows.Own
import PyProof.Rows.Exc
import PyProof.Rows.Chain
import PyProof.Rows.RuleB_pow
import PyProof.Rows.RuleB_floordiv
import PyProof.Rows.RuleB_mod
import PyProof.Rows.StrTemp
import PyProof.Rows.ListMul
import PyProof.SeqI3
import PyProof.Rows.TupMore
import PyProof.SliceMore
import PyProof.Rows.StrRules
import PyProof.Rows.Walk
import PyProof.SumAny
import PyProof.Rows.MaxTwoN
import PyProof.Rows.TupAdd
import PyProof.TupleOfSeq
import PyProof.Rows.SortShell
import PyProof.Rows.SortWalk
import PyProof.Rows.Range3
import PyProof.Rows.SortStr
import PyProof.SetRoads
import PyProof.Rows.SetFrom
import OpenK.KMake
import Open.Line
import OpenK.KWalk
import Open.Boot
import Open.Tree
import OpenK.KWith
import KE.KDictOf
import KE.KItemsList
import KE.KSortTup
import Wide.All
import PySem.Challenge.RW_uf010038_10
open PySem.Str renaming ofString->bM
open Nat renaming le_trans->bN,le_of_eq->cu,le_refl->cO,zero_le->cP,lt_of_lt_of_le->cR,le_add_left->cT,lt_of_le_of_lt->dq,succ_add->dH,le_of_lt->dK,le_of_not_lt->dO,ne_of_lt->dU,le_add_right->eG,le_of_lt_succ->eH,min_le_left->eQ,succ_le_succ->fB,add_le_add_left->fG,add_le_add_right->fQ,le_antisymm->gf,ne_of_gt->gk,not_lt_zero->gA,lt_succ_self->gF,add_assoc->gK,min_le_right->gW,lt_trans->gY,lt_irrefl->ik,sub_eq_zero_iff_le->iB,lt_succ_of_le->iC,add_min_add_right->iI,add_le_add->iM,not_lt->iU,le_succ->iZ,mul_le_mul_left->jb,min_eq_left->je,sub_self->ji,le_succ_of_le->jl,lt_of_succ_lt_succ->ju,le_of_succ_le_succ->jw,min_eq_right->jA,succ_ne_zero->jB,add_comm->jL,zero_add->jP,strongRecOn->jT,eq_or_lt_of_le->km,sub_add_cancel->kI,lt_succ_of_lt->lw,max_le->lC,succ_lt_succ->lJ,le_max_right->lQ,lt_succ_iff_lt_or_eq->lW,lt_add_of_pos_right->mj,lt_of_add_right_lt->mH,le_add_right_of_le->mJ,sub_eq_zero_of_le->nj,mul_le_mul->nC,add_right_cancel->nQ,le_sub_of_add_le->nU,min_self->oK
open List renaming getElem?_eq_getElem->bO,length_map->bQ,mem_cons->bR,mem_singleton->bV,getElem?_map->bW,replicate->bY,getElem?_eq_some_iff->cj,mem_append->cz,mem_of_getElem?->cA,length_append->cC,mem_map->cD,map_append->cG,getD_eq_getElem?_getD->cI,mem_append_right->cU,mem_append_left->cV,all_eq_true->cX,range->cY,not_mem_nil->dg,isEmpty_iff->dh,append_assoc->dB,append_nil->dC,length_cons->dD,length_replicate->dG,length_range->dM,mem_cons_of_mem->dX,mem_range->dY,length_set->dZ,nodup_append->eN,lookup_cons->eU,getElem?_append_right->eX,getElem?_eq_none->fH,map_map->fK,getElem_mem->fL,length_eq_zero_iff->fP,mem_or_eq_of_mem_set->fW,mem_cons_self->fX,filter_cons->fY,forall_mem_cons->fZ,map_inj_left->gb,nodup_cons->gh,mem_filter->gj,filter_append->gw,getElem?_range->gB,mem_map_of_mem->gC,map_congr_left->gD,mem_replicate->gG,range_succ->gJ,map_cons->gM,mem_of_mem_take->gO,getElem?_append_left->gP,drop_eq_getElem_cons->gQ,mem_of_find?_eq_some->gU,length_take->gZ,any_eq_true->ie,getElem_of_mem->ig,elem_iff->il,find?_cons->iw,contains_cons->iy,map_replicate->iz,size_toArray->iD,take_add_one->iG,getElem?_set->iH,mem_iff_getElem?->iK,length_singleton->iT,take_length->iV,replicate_succ->jd,pairwise_iff_getElem->jf,foldl_cons->jg,ext_getElem?->jm,flatten_cons->jn,take_of_length_le->jt,length_drop->jz,mem_flatten->jC,nodup_range->jD,append_inj'->jE,length_filter_le->jG,contains_iff_mem->jH,length_reverse->jW,filter_eq_self->jX,lookup->jZ,length_eraseIdx_of_lt->kW,all_cons->kZ,getElem_inj->lG,drop_length->lH,filterMap_cons_some->lL,map_fst_zip->lM,map_snd_zip->lO,all_map->lV,map_set->lX,mem_singleton_self->mq,length_nil->mD,find?_some->mF,getElem?_set_self->mG,drop_of_length_le->mO,pairwise_lt_range->mQ,range'->mR,length_eq_one_iff->mU,flatMap_singleton->mY,eq_nil_or_concat->nq,concat_eq_append->nA,getElem?_set_ne->nF,length_take_le'->nH,pairwise_append->nJ,foldl->nM,mem_of_mem_drop->nO,replicate_succ'->nR,toList_toArray->nY,length_flatten->nZ,filter_sublist->oh,flatMap_append->oA,length_take_le->oE,any_map->oH
open Bool renaming false_ne_true->bU,and_eq_true_iff->dw,and_eq_true->eV,or_eq_true->iu,false_xor->iQ,and_false->iR,true_xor->iY,false_and->jj,true_and->kY,eq_iff_iff->mC,not_not->oG
open PySem.Heap renaming get?_push_of_some->bZ,get?_push_size->cH,lt_size->dJ,get?_update_self->gn,get?_some_iff->ir,get?_update_other->jo,get?_update_ne->jV,size_push->ni
open Array renaming length_toList->cB,getElem?_toList->cM,getElem?_eq_getElem->eE,getElem?_eq_some_iff->fJ,toList_push->jk,getElem?_eq_none->jr,getElem?_mapIdx->jF,toArray_toList->jQ,mem_toList_iff->jU,any_toList->lK,find?_toList->oJ
open Int renaming ofNat_lt->cJ,le_trans->cQ,ofNat_le->cZ,natCast_nonneg->du,lt_of_le_of_lt->dz,zero_add->dF,eq_ofNat_of_zero_le->dI,toNat_of_nonneg->dN,le_sub_one_of_lt->eZ,lt_trans->fu,toNat_natCast->fU,emod_nonneg->fV,emod_lt_of_pos->gq,lt_of_le_sub_one->gR,le_of_lt->gV,toNat_le->iJ,le_add_of_nonneg_right->iW,lt_of_lt_of_le->jh,le_refl->jq,ofNat_inj->jx,max_eq_right->jy,toNat_lt->jK,le_of_eq->jM,sub_nonneg_of_le->jO,ne_of_gt->jR,add_nonneg->jY,add_lt_of_lt_sub_right->kJ,zero_le_ofNat->lg,sub_pos_of_lt->lq,not_lt->lA,add_lt_of_lt_sub_left->lD,sub_lt_self->my,min_eq_left->mz,sub_zero->oF
open Option renaming map_eq_some_iff->cL,isNone_iff_eq_none->fM,isSome_iff_exists->fO,some_ne_none->jc,map_some->jN,elim->mK,map_eq_none_iff->mV
open Classical renaming byContradiction->eF
open PySem.Obj renaming mapSeq->eO
open PySem.Calls renaming callWith_builtin->fj,call_function_entry->lB,loadGlobal_global->lY,callWith_function->lZ,call_len_list->nW
open PySem.Data renaming noConfusion->gm
open PyProof.Rows renaming slot_tuple_getitem->jJ,slicePart_none->kj,bindName_->mX,tail_any->mZ
open Eq renaming symm->lE
open Decidable renaming em->lR
open PySem renaming wpAny_bind->oM,wpAny_pure->oN,wpAny_mono->oO,wpAny_Call_ofName->oU,wpAny_newObj_type->oV,codeAny_mono->oW,wpAny_holding->oX,wpAny_isInstance->oY,plainId_quiet->oZ,starEach->pg,foldedForSure->ph,constantsAlone->pA
open PySem.Challenge renaming pw_uf010038_10->pB
set_option Elab.async false
set_option linter.all false
set_option bootstrap.genMatcherCode false
set_option tactic.hygienic false
set_option maxHeartbeats 1000000
open PySem
namespace Internal
theorem kq:True:=by
 k_with"#"=>decide +kernel
 trivial
noncomputable section
variable{s sw:Shared}{pos apos:Pos}{A:Around}{h':Heap}{tk slot D:Nat}{fr own q':Addr->Prop}{env:Env}{E:Value->Shared->Prop}{TO st pa ma ra sa:Addr}{scope sc:Scope}{prog:Program}{St:Nat->Heap->Prop}{ifs:List Expr}{α:Type}{bm bmB:List Value}{os:OsState}{osl:Array (Option Value)}{rs qs pds mks rws:List Addr}{ws:List Str}{ns:List Int}{U Us:List (List (Str×Int))}{Ts:List (List Bool)}{ow:Int}
theorem kwd:True:=by
 k_with"e"=>rcases bR.mp ha with e | ha
 k_with"f"=>refine v3 (u0 hc) λn as np p qa hc1=>?_;clear hc;subst qa
 k_with"g"=>refine i4 ((b9 hc1).imp id b9) λh1 h2 h3=>?_;clear hc1
 k_with"j"=>obtain⟨h1,h2,h3,h4,h5,h6⟩:=(b9 hc3).imp id λh=>(b9 h).imp id λh=>(b9 h).imp id λh=>(b9 h).imp id b9;clear hc3
 k_with"k"=>rcases hm with ⟨rfl,hn⟩ | ⟨rfl,hn⟩ | ⟨rfl,hn⟩ | ⟨rfl,hn⟩ | ⟨rfl,hn⟩ | ⟨rfl,hn⟩ | ⟨rfl,hn⟩ | ⟨rfl,hn⟩ | ⟨rfl,hn⟩ | ⟨rfl,hn⟩ | ⟨rfl,hn⟩ | ⟨rfl,hn⟩
 k_with"o"=>k_extra"w";refine ih p.N (bN (cu (dH n 1).symm) p.d) hr ?_;k_extra"w";refine ih p.N (bN (cu (dH n 1).symm) p.d) ht ?_;k_extra"w"
 k_with"p"=>refine u6 p.N (p.dd (by decide)) W (by decide) (by decide) λr2 τ' h0 h1 W S1=>?_
 k_with"q"=>exact p.h (h _ _ (.aQ (by k_extra"m") ho hone) (by assumption) (by assumption))
 k_with"r"=>exact p.h (h _ _ (.aP (by k_extra"m") hone ho) (by assumption) (by assumption))
 k_with"t"=>obtain⟨a,rfl⟩:=z7 (l:=args) (by first | exact hn | exact A6 hn | (simp only[dD] at hn;lia))
 k_with"u"=>k_extra"w";refine A.m (by k_extra"#") (X2 p.N (p.dd (by decide)) A (Bp zz lr) okv (λq=>?_) (λq=>p.x (hy (by rw[<- lr];exact q))))
 k_with"v"=>obtain⟨h1,h2,h3,h4⟩:=(b9 hc1).imp id λh=>(b9 h).imp id b9;clear hc1
 k_with"x"=>apply T3 hc;intro t u w hc1;refine a7 (q9 hc1) λn e2 hc2=>?_;clear hc1
 k_with"A"=>exact Stop.mk (Br p hne (d6 _ _ _) (by k_extra"h") hRl (by assumption) (by assumption) λnum s2 n2 M3 q0 q1 q2 q3 q4 q5 q6 q7 q8=>(hJ (fin _ num s2 n2 M3 _ _ (by decide) (by decide) q0 q1 q2 q3 q4 q5 q6 q7 (((hSt.trans m8.l).trans m8.l).trans q8))))
 k_with"B"=>exact⟨⟨x.same.1,x.same.2⟩,λb o hb=>a7 (x.dom b o hb) λo' ho' d=>⟨o',e _ _ (ne _ _ hb) ho',d⟩,λb o hb hM ho=>a7 (x.keep b o hb hM ho) λo' ho' d=>⟨o',e _ _ (ne _ _ hb) ho',d⟩,λb vs n hb=>e _ _ (ne _ _ hb) (x.ak b vs n hb),x.new⟩
 k_with"C"=>refine bd N JT (by k_extra"b") hD λcx p=>?_
 k_with"D"=>refine i4 ((b9 hc1).imp id b9) λh1 h2 hc2=>?_;clear hc1
 k_with"E"=>obtain rfl:d2=[]:=by cases d2 with | nil=>rfl | cons _ _=>cases e2
 k_with"F"=>have e:us.size=l.length:=by rw[<- rl.length,cB]
 k_with"G"=>exact⟨by k_extra"#",.str (by k_extra"#")⟩
 k_with"H"=>have hw:=S1 _ _ (j9 hwl) hw;clear S1
 k_with"I"=>exact hq _ _ _ _ (by assumption) (by assumption) (by exact aD2 (by assumption)) (by lia) (by assumption) (by assumption) (d6 _ _ _) (by k_extra"h") (((m8.l.trans m8.r).trans m8.l).trans (m8.l.trans m8.l))
 k_with"J"=>intro o l p hc1;obtain rfl:=f4 (b9 hc1).1;refine v9 (RB (b9 hc1).2) λl r es qa hc2=>?_;clear hc1;subst qa
 k_with"K"=>have e0:(0:Int)+(i:Int)=i:=dF _;rw[e0]
 k_with"L"=>apply T6 hc;intro f as ks p hc1;refine d5 (b9 hc1) λh0 hc2=>?_;clear hc1
 k_with"M"=>refine a7 r.one λz_ qa r0=>?_;subst qa
 k_with"N"=>refine Idx.mk (by k_extra"n") (by k_extra"n") (by k_extra"n") λx hx=>a7 (Aq hx) λi hi qa=>?_
 k_with"O"=>have hT:=bO hi;have hU:Us[i]?=some (Us[i]'(lu▸hi)):=bO _;generalize Ts[i]=T at hT;generalize Us[i]'_=u at hU;obtain⟨a,ha,hau⟩:=pa.get (j:=i) (x:=u.map tS) (by rw[bW,hU];rfl)
 k_with"P"=>exact p.h (h _ _ (.part hone (by k_extra"n") (by k_extra"n")) (by assumption) (by assumption))
 k_with"Q"=>obtain rfl:=r0.aa;refine a7 ((I.sim.objs a _ hM).1) λus hp rl=>?_
 k_with"R"=>rintro _ _ u;refine u _ ?_;clear u;rintro f os rfl hr hf hl rfl
 k_with"S"=>apply abP (x:=x)
 k_with"T"=>apply Zj O;intro l o r p hc1;refine a7 (q9 hc1) λo' qa hc2=>?_;clear hc1;subst qa
 k_with"U"=>have lr:rws.length=T.length:=by rw[A.ro.len,G8]
 k_with"V"=>rcases bR.mp ha with q | ha
 k_with"W"=>refine⟨trivial,?_⟩
 k_with"X"=>rcases bR.mp z with z | z
 k_with"Y"=>k_extra"w";refine A.m (by k_extra"#") (X2 p.N (p.dd (by decide)) A (by exact Zt lr zz) okv (λq=>?_) (λq=>p.x (hy (by rw[<- lr];exact q))))
 k_with"Z"=>rintro _ _ x;refine x _ ?_;clear x;rintro o1 o2 rfl rfl
 k_with"0"=>rintro _ _ K;refine K _ ?_;clear K;rintro o1 o2 rfl rfl
 k_with"1"=>refine a7 (q9 hc2) λr qa hc3=>?_;clear hc2;subst qa
 k_with"2"=>obtain⟨h1,h2,h3,h4⟩:=(b9 hc3).imp id λh=>(b9 h).imp id b9;clear hc3
 k_with"3"=>refine p _ ?_;clear p
 k_with"4"=>obtain⟨rfl,d1,d2,e1,e2,rfl⟩:=hh
 k_with"5"=>obtain rfl:todo=[]:=by cases todo with | nil=>rfl | cons _ _=>cases e2
 k_with"6"=>k_extra"w";refine i8 y _ ey qa (by exact X7 zz lp (by assumption)) ?_
 k_with"7"=>refine g6 r.aj λv us qa r1 r2=>?_
 k_with"8"=>refine d5 (List.cons.inj e2) λqa qb=>?_;subst qa
 k_with"9"=>refine d4 ry.ofInt λz_ qa=>?_;subst qa
 k_with"aa"=>intro e l hc;refine i4 ((b9 hc).imp id b9) λh1 h2 h3=>?_;clear hc
 k_with"ab"=>obtain⟨x,rfl⟩:=z7 (l:=args) (by exact A6 hn)
 k_with"ac"=>have hw:=S1 _ _ (j9 hwl) hw;have hwa:=S1 _ _ (j9 hwn) hwa;clear S1
 k_with"ad"=>have hoL:(s'.heap.push (seqObj "list" vs.toArray 0)).get? s'.heap.objs.size=some (seqObj "list" vs.toArray 0):=cH _ rfl
 k_with"ae"=>refine ih (min (k+1) 2-1) Y5 p.N (Dp p.d) (Fj he) (Aj hm) (by assumption) (by assumption) λthird n4 ht hn4 hn4'=>?_
 k_with"af"=>refine d5 (p9 h1) λk1 k2=>?_;clear h1
 k_with"ag"=>obtain rfl:ks=[]:=dh.mp h0;apply H6 (x:=f) hc2
 k_with"ah"=>have kx:=hx x (by k_extra"m")
 k_with"ai"=>show((s.heap.push (seqObj "list" #[] 0)).update s.heap.objs.size (eO (· ++ items.toList.toArray))).get? b=some o
 k_with"aj"=>refine z _ ?_;clear z;rintro C oe a0 rfl n b hs ho hc hx hd h0
 k_with"ak"=>k_extra"w";all_goals exact p.h h
 k_with"al"=>refine pgo (h2 A R s₂ a b sy (ra.mono C.ak) rb) (λc s₃ Vc Ma rc I3 S h3=>?_) λz_ z_ p=>(p.step C).step E
 k_with"am"=>refine f5 (t8 hf) λi qa h0 h1=>?_;clear hn;clear hf;subst qa
 k_with"an"=>obtain rfl:y=y':=Int.ofNat.inj (ey.symm.trans (V.int.inj e1))
 k_with"ao"=>rcases R7 e2 with ⟨q2,e2⟩ | ⟨q2,rfl⟩
 k_with"ap"=>k_extra"w";refine i8 _ _ eb (K6 λb=>V.ref (K.s b).x) sI ?_
 k_with"aq"=>simp only[bR,dg,or_false] at hx
 k_with"ar"=>k_extra"S";intro u Ma;obtain⟨⟨l,o',r⟩,e,hc1⟩:=i7 hc;clear hc;refine d4 (Dc e) λp' qa=>?_;subst qa
 k_with"as"=>exact d4 (Ja.loc.live y c hc) λv hv=>⟨v,Cell.kept hv λo ho=>⟨o,hl c o (.inr ⟨y,hc⟩) ho,rfl⟩⟩
 k_with"at"=>rintro _ M' hh;refine hh _ ?_;clear hh;rintro done todo n R o7 o8 e1 e2 hst' h0 h1 hla' Ma hsl' hG hS rfl
 k_with"au"=>refine oU (I.nB hk hd hb.1 hb.2 ?_)
 k_with"av"=>refine zW (Bk ok) λhcell hkind hloc hx hnd hfr hjs=>?_
 k_with"aw"=>refine a7 (t8 hf) λi e z_=>?_
 k_with"ax"=>unfold Builtin.Str.strSliceIndices;simp only[show((1:Int) > 0)=True from eq_true (by decide),if_true]
 k_with"ay"=>refine(λz_ k_=>k_ e0 l ha hf (λv hv=>(all v hv) _ ?_))
 k_with"az"=>k_extra"w";refine I2 p.N (p.dd (by decide)) e z0 z1 (by decide) (by decide) λr z' r0 r1 z0' z1'=>?_
 k_with"aA"=>obtain⟨a,b,rfl⟩:=rC (l:=args) (by first | exact hn | exact uh hn | (simp only[dD] at hn;lia))
 k_with"aB"=>refine i4 ((b9 hc2).imp id b9) λk3 h4 h5=>?_;clear hc2
 k_with"aC"=>rcases bR.mp hx with rfl | hx
 k_with"aD"=>rcases cz.mp hx with q | q
 k_with"aE"=>refine d5 (List.cons.inj e2) λe3 qa=>?_
 k_with"aF"=>refine oO (hex A env s3 I3) (λfl s4 p4=>p4 _ ?_) λe s4 p=>tE _ _ (kE _ _ (uC (p.step st13)))
 k_with"aG"=>rename_i O;rw[if_pos O] at h;exact(λ_ k_=>k_ _ M (.int _ _) (I.keep st (I.sim.grow hk)) st h)
 k_with"aH"=>refine a7 (q9 hc2) λr' qa hc3=>?_;clear hc2;subst qa
 k_with"aI"=>apply ao8 O;intro l r p hc1;obtain rfl:=f4 (b9 hc1).1
 k_with"aJ"=>refine i5 (y0 h3) λe ty qa hc2=>?_;clear h3;subst qa
 k_with"aK"=>obtain⟨h1,h2,h3,h4,h5⟩:=(b9 hc1).imp id λh=>(b9 h).imp id λh=>(b9 h).imp id b9;clear hc1
 k_with"aL"=>refine lB kind_sorted plain_sorted entry_sorted (args_sorted1 _) ?_;unfold Builtin.«sorted»
 k_with"aM"=>obtain⟨x,rfl⟩:=z7 (l:=args) (A6 hn)
 k_with"aN"=>obtain⟨hi',e1⟩:=cj.mp hi;obtain⟨hj',e2⟩:=cj.mp hj;exact(lG hn).mp (e1.trans e2.symm)
 k_with"aO"=>rw[show env.kindOf y=F.sc.names.lookup y from by unfold Env.kindOf;rw[I.scope],this] at hkd
 k_with"aP"=>have hl':s.heap.IsList a us:=by refine a7 hl λo ho q=>?_;exact⟨o,I.sim.stays _ _ ho,q⟩
 k_with"aQ"=>refine A.bH (ItR.l (LookR.mk _ A.hp (i8 y (.ref c) rfl (by rw[bW,hc];rfl) (P2 zz hy') ?_)))
 k_with"aR"=>have hne:a≠s.heap.objs.size:=λq=>by refine d4 hp λc hc=>?_;rw[q,hfr] at hc;exact i6 hc
 k_with"aS"=>obtain⟨hy,ht,pa,ba,lu,gp,uz,tz,zz⟩:=H;have la:as.length=Ts.length:=by rw[pa.len,bQ,lu]
 k_with"aT"=>refine Ma _ ?_;have hs:∀ env,pg [e] env=[(false,eval e env)]:=λenv=>v8 (m7 (b9 hc6).1)
 k_with"aU"=>have lp:((v b).ps.map V.ref).length=(v b).B.length:=by rw[bQ,H.pS.len,bQ,H.pm.len,H.Y.lu]
 k_with"aV"=>show wpAny _ _ (if ((i:Int)==0&&(1:Int)==1&&(j-i)==items.size)=true then _ else _) _ _ s
 k_with"aW"=>refine a7 (O7 q) λy qa hy'=>?_
 k_with"aX"=>rw[lr] at q;k_extra"w";refine A.bc ?_;k_extra"w";refine G1 p.N (p.dd (by decide)) okk ?_
 k_with"aY"=>simp only[bR,dg,or_false] at hv
 k_with"aZ"=>obtain rfl:n=nm:=f4 h1;obtain⟨y,hy⟩:=fO.mp h3;clear h3;refine d4 (C9 hy) λnp e=>?_
 k_with"a0"=>simp only[szs,bR,Prod.mk.injEq,dg,or_false] at hm
 k_with"a1"=>refine Qu p.N (by k_extra"d") S (by k_extra"n") (by k_extra"n") λr n' hr hn hn'=>?_
 k_with"a2"=>rintro _ M' L;refine L _ ?_;clear L;rintro ea cs o1 o2 o3 o4 P hn hf hP he E Z nw rfl
 k_with"a3"=>rintro e0 l ha hf all
 k_with"a4"=>simp only[bR,dg,or_false] at a
 k_with"a5"=>rintro _ M' E;refine E _ ?_;clear E;rintro R C F K O hl Y Ma w hs S hn H y c hSt rfl
 k_with"a6"=>have e:vs.size=l.length:=by rw[<- rl.length,cB]
 k_with"a7"=>simp at hx;subst hx;exact .inr (.inl ⟨i,e⟩)
 k_with"a8"=>have e0:kvs.length=L.length:=by have:=congrArg List.length r.1;rwa[bQ,bQ] at this
 k_with"a9"=>k_extra"W";k_extra"w";refine p.h ?_
 k_with"ba"=>refine IdxS.mk (by k_extra"n") (by rw[h26];assumption) (by k_extra"n") λc hc=>?_
 k_with"bb"=>refine k9 r0.az λa us n qa ht rl=>?_;subst qa
 k_with"bc"=>rw[V6 hst] at this;exact this
 k_with"bd"=>intro g D r v M Q X N hD hr hc h;refine bd N Wj (by k_extra"b") hD λcx p=>?_
 k_with"be"=>rintro _ _ A;refine J6 A λws n k a hl Ma Y Z Ja I=>?_;clear A;subst Ja;subst I
 k_with"bf"=>subst qa;k_extra"w";exact p.h (h _ _ (.aD hi) (by assumption) (by assumption))
 k_with"bg"=>refine bd N Zu (by k_extra"b") hD λcx p=>?_
 k_with"bh"=>rintro _ _ hh;refine I6 hh λA B o e1 e2 qa qb=>?_;clear hh;subst qa;subst qb
 k_with"bi"=>k_extra"w";refine i8 j _ rfl (pZ hj) (by exact Ck l40 lr (by assumption)) ?_
 k_with"bj"=>k_extra"w";refine DW p.N (p.dd (by decide)) (by unfold s5;lia) λz z0 z1=>?_
 k_with"bk"=>have hp:(backTo pos (pg [e,.Name t tp] env)).any (·.1)=false:=by rw[he];rfl
 k_with"bl"=>rw[e9 _ _ (λz=>q (by rw[z];exact .head _))]
 k_with"bm"=>refine x _ ?_;clear x
 k_with"bn"=>have hall:∀ i,i<rh.length->(i:Int)∈F:=λi hi=>eF λq=>hno ⟨i,hi,q⟩
 k_with"bo"=>exact hJ (λ_ k_=>k_ _ _ rfl hr' (by rw[jg,aS0 q] at hf;exact hf) rfl rfl)
 k_with"bp"=>exact hJ (λ_ k_=>k_ _ _ rfl hr' (by rw[jg,JZ q] at hf;exact hf) rfl rfl)
 k_with"bq"=>rintro _ _ L;refine L _ ?_;clear L;rintro done todo R o e1 e2 hl I rfl rfl
 k_with"br"=>rename_i z hz b hb;rw[MK];exact k _ b _ (Sub.upd hz) (λq=>q.upd rfl) hb
 k_with"bs"=>obtain⟨x,y,rfl⟩:=rC (l:=args) (uh hn)
 k_with"bt"=>rintro _ _ E;refine I6 E λc F o hc hp Ja qb=>?_;clear E;subst Ja;subst qb
 k_with"bu"=>rintro _ _ O;refine x4 O λy c K C F E Ja qb=>?_;clear O;subst Ja;subst qb
 k_with"bv"=>rcases bR.mp hc with q | hc
 k_with"bw"=>rcases bR.mp hq with z | hq
 k_with"bx"=>have hl:s.heap.IsList a items.toList.toArray:=by rw[jQ];exact Ma.isList
 k_with"by"=>rintro _ _ H;refine x4 H λc L o O Ja hL A T=>?_;clear H;subst Ja;subst T
 k_with"bz"=>obtain⟨b,hb,hbt⟩:=ba.get (j:=i) (x:=T.map .bool) (by rw[bW,hT];rfl)
 k_with"bA"=>show(relabel scope env).names.lookup x=_;exact lookup_relabel_local hx
 k_with"bB"=>have st:Step (inF A) f7 M M s {s with heap:=h',toks:=tk}:=Step.grow hk
 k_with"bC"=>rintro N nm q bs hdct sn sub ab col dd k0 k1 k2 k3 k5 mN hC hN hni-T -
 k_with"bD"=>have q:=(cj.mp e).1;rw[<- h.len] at q;exact⟨_,bO q,h.at' (bO q) e⟩
 k_with"bE"=>k_extra"w";refine i8 i _ rfl qa (by exact T4 zz lb (by assumption)) ?_
 k_with"bF"=>rintro N nm q bs hdct sn sub ab col dd k0 k1 k2 k3 k5 mN hC hN-hmN-T
 k_with"bG"=>k_extra"w";refine aq1 (by k_extra"d") ?_
 k_with"bH"=>rcases cz.mp hc with z | z
 k_with"bI"=>obtain⟨v,h1,h2⟩:=T.const x _ hx;cases h2 sw.heap;exact⟨_,h1⟩
 k_with"bJ"=>k_extra"w";rename_i b Y
 k_with"bK"=>rintro _ _ y;refine y _ ?_;clear y;rintro done todo o e1 e2 rfl rfl
 k_with"bL"=>k_extra"w";refine i8 j _ rfl (pZ hj) (Ck hm lr (by assumption)) ?_
 k_with"bM"=>rw[if_neg (show ¬ ((Value.ref T==Value.none)=true) from by simp)]
 k_with"bN"=>refine d4 ru.ofStr λz_ qa=>?_;subst qa
 k_with"bO"=>rintro _ M3 Ja;refine Ja _ ?_;clear Ja;rintro I G o2 o3 E R u c P rfl
 k_with"bP"=>have hp:(backTo pos (pg [e] env)).any (·.1)=false:=by rw[he];rfl
 k_with"bQ"=>have e:((us.size:Nat):Int)=(l.length:Int):=by rw[<- rl.length,cB]
 k_with"bR"=>refine R _ ?_;clear R;rintro Ma cs o1 o2 P I hf hP he Ja A Y K rfl
 k_with"bS"=>exact hJ2 (λ_ k_=>k_ none _ (by dsimp only;rw[U7,ay2 q,dB]) rfl)
 k_with"bT"=>exact hJ2 (λ_ k_=>k_ none _ (by dsimp only;rw[U7,Jk q,dC]) rfl)
 k_with"bU"=>rcases bR.mp q with q | q
 k_with"bV"=>refine d5 (p9 h1) λh6 h7=>?_;clear h1
 k_with"bW"=>rintro _ M' u;refine Sw u λv qs c E W A Ja=>?_;clear u;subst Ja
 k_with"bX"=>rintro n s' hh T E C tn tb tr tE c0 c1;refine hh _ ?_;clear hh
 k_with"bY"=>refine d4 (JK e) λp qa=>?_;subst qa
 k_with"bZ"=>refine v3 (u0 hc3) λm bs mp p' qa hc4=>?_;clear hc3;subst qa
 k_with"b0"=>have hsA2:upd M D (.di L) sA=none:=by rw[e9 _ _ hne];exact H
 k_with"b1"=>k_extra"w";refine i8 _ _ eb (K6 λb=>V.ref (K.s b).m) sI ?_
 k_with"b2"=>rintro _ M' H;refine H _ ?_;clear H;rintro u Ja Ma W Z y rfl
 k_with"b3"=>k_extra"w";exact hN ⟨rfl,rfl,λx hx=>hr x (.tail _ hx)⟩
 k_with"b4"=>rcases a with rfl | rfl | rfl | rfl
 k_with"b5"=>have hr':∀ x∈rest,u7 x=true:=λx hx=>hr x (.tail _ hx)
 k_with"b6"=>have hlt:j<J.length:=by rw[I.loc.len];exact(cj.mp hj').1
 k_with"b7"=>rintro f U _ D;refine f5 D λMa I y H=>?_;clear D;subst I
 k_with"b8"=>rw[if_pos rfl] at e2;rw[hc] at e1;have e1:=d7 e1;subst e1
 k_with"b9"=>rcases cz.mp ha with e | ha
 k_with"ca"=>obtain⟨o2,e2,k2⟩:=keep b o1 e1 (by rw[e];exact jc _)
 k_with"cb"=>refine i5 (y0 hc1) λo1 o2 qa hc2=>?_;clear hc1;subst qa
 k_with"cc"=>refine i5 (y0 hc2) λr1 r2 qa hc3=>?_;clear hc2;subst qa
 k_with"cd"=>obtain rfl:=f4 h1;refine d5 (p9 h2) λh5 h6=>?_;clear h2
 k_with"ce"=>refine i4 ((b9 hc3).imp id b9) λh1 h2 hc4=>?_;clear hc3
 k_with"cf"=>refine i4 ((b9 hc4).imp id b9) λh3 h4 hc5=>?_;clear hc4
 k_with"cg"=>refine d4 (ok.ok a rfl) λl hl=>?_
 k_with"ch"=>have hz2:(rs.map V.ref).length=nm.length:=by rw[bQ,hrl]
 k_with"ci"=>rintro _ L E;refine i5 E λo3 x U Ja=>?_;clear E;subst Ja
 k_with"cj"=>refine E _ ?_;clear E;rintro H d2 bs e1 e2 rfl P L u nw
 k_with"ck"=>refine z _ ?_;clear z;rintro C Ja a0 q n b P H O hx w Y
 k_with"cl"=>obtain⟨z1,z2⟩:=dw.mp z;obtain⟨z2,z3⟩:=dw.mp z2
 k_with"cm"=>obtain⟨a,b,c,rfl,c0,c1⟩:=V1 (hr v (by k_extra"m"))
 k_with"cn"=>rw[bW] at h;refine a7 (cL.mp h) λb hb qa=>?_;subst qa
 k_with"co"=>rcases cz.mp hc with q | q
 k_with"cp"=>rcases cz.mp ha with e | e
 k_with"cq"=>obtain rfl:y=y':=Int.ofNat.inj (V.int.inj e1);clear e1
 k_with"cr"=>have e:(vs.toList++us.toList).toArray=vs++us:=by simp
 k_with"cs"=>clear c;k_extra"a3";exact(λz_ k_=>k_ e0 l ha hf all)
 k_with"ct"=>k_extra"w";rename_i e Z;refine Gm (by k_extra"d") ?_
 k_with"cu"=>k_extra"a9";have e:f=atN (.tup l) n:=hf;rw[e];exact h
 k_with"cv"=>obtain rfl:=r0.aa
 k_with"cw"=>refine a7 (q9 hc5) λe qa hc6=>?_;clear hc5;subst qa
 k_with"cx"=>refine E _ ?_;clear E;rintro O d2 Ma e1 e2 rfl w Y y
 k_with"cy"=>exact q (by rw[z];exact .head _)
 k_with"cz"=>obtain⟨vs,⟨n,ho⟩,rl⟩:=(I.sim.objs a _ hM).1
 k_with"cA"=>obtain⟨x,y,rfl⟩:=rC (l:=args) (by exact uh hn)
 k_with"cB"=>have hFl:F.length<=63:=eH (dq (pQ hp.nd hp.sub) hl)
 k_with"cC"=>rintro _ E O;refine F2 O λo3 Ma Ja I qa=>?_;clear O
 k_with"cD"=>refine v9 (V1 (hr x hx)) λa b c qa z_=>?_;subst qa
 k_with"cE"=>rintro a vs z T oT ts e1 - - - - - - -;k_extra"aj"
 k_with"cF"=>refine a7 rs.one λz_ qa r0=>?_
 k_with"cG"=>have e:=Value.ref.inj (d7 (hC.symm.trans c.bound))
 k_with"cH"=>obtain rfl:k=i:=Int.ofNat.inj (List.cons.inj e2).1
 k_with"cI"=>refine k _ ?_;clear k;rintro ys a ⟨n,b⟩ q d f
 k_with"cJ"=>k_extra"aW";clear okv;clear hy;clear okk;subst qa
 k_with"cK"=>refine bdn N Lq (by k_extra"b") hD λcx p pn=>?_
 k_with"cL"=>rw[e];exact .tail _ (.tail _ (.tail _ (.head _)))
 k_with"cM"=>rcases y with ⟨e,y⟩ | ⟨e,c,r,hc,hcell,y⟩
 k_with"cN"=>have e1:vs.size=l.length:=by rw[<- rl.length,cB]
 k_with"cO"=>have e2:us.size=k.length:=by rw[<- rk.length,cB]
 k_with"cP"=>obtain rfl:=r.aa
 k_with"cQ"=>have hfr:s.heap.get? s.heap.objs.size=none:=u5 _
 k_with"cR"=>refine d5 (I.sim.objs a o (d6 _ _ _)) λr hb=>?_
 k_with"cS"=>refine w _ ?_;clear w
 k_with"cT"=>obtain⟨a,rfl,x,e,h⟩:=s9 (show m5 _ v from h)
 k_with"cU"=>refine i5 (aM3 hT h2) λas ms oc hn=>?_;clear h2
 k_with"cV"=>refine f5 W.hst λz ez _ _=>?_
 k_with"cW"=>k_extra"H";k_extra"w"
 k_with"cX"=>rcases hv with rfl | rfl | rfl | rfl | rfl | rfl
 k_with"cY"=>refine a7 r.one λz_ qa r0=>?_;clear r;subst qa
 k_with"cZ"=>refine List.ext_getElem (by simp) λi h1 h2=>?_
 k_with"c0"=>rw[if_pos (h.len▸R)] at C;rw[<- d7 E,<- d7 C]
 k_with"c1"=>k_extra"w";refine Rr p.N (p.dd (by decide)) ?_
 k_with"c2"=>exact .inr (.inl ⟨i,rfl⟩)
 k_with"c3"=>refine a7 (I.sim.objs x _ hx).1 λC' hC ho=>?_
 k_with"c4"=>obtain⟨⟨l0,o0,r0⟩,e1,hf⟩:=i7 h;clear h
 k_with"c5"=>replace u:=d7 u;subst u
 k_with"c6"=>replace e:=d7 e;subst e
 k_with"c7"=>refine k9 r.az λa us n qa ht rl=>?_;subst qa
 k_with"c8"=>refine g6 r.two λz_ z_ qa r0 r'=>?_;subst qa
 k_with"c9"=>refine F2 (H7 h) λm qa z_ z_ hi=>?_;subst qa
 k_with"da"=>rintro _ _ hh;obtain⟨rfl,h1,h2,o,rfl⟩:=hh
 k_with"db"=>have lb:bs.length=Ts.length:=by rw[ba.len,bQ]
 trivial
theorem f4{p:Prop}[Decidable p](h:decide p=true):p:=of_decide_eq_true h
noncomputable def CQ:PySem.DefRec:=⟨.ofString "",⟨[],[],none,[],[],none,[]⟩,[],default,default⟩
noncomputable def Eg(o:Option Stmt):PySem.DefRec:=o.elim CQ λs=>PyProof.Rows.recsOf.match_7 (λN=>PySem.DefRec) s (λu c Ma N N N q N N pos=>⟨u,c,Ma,q,pos⟩) λN=>CQ
noncomputable def Yj(o:Option Stmt):List Stmt:=o.elim [] λs=>PyProof.Rows.clssOf.match_3 (λN=>List Stmt) s (λN N N Ma N N N N N N N=>Ma) λN=>[]
def dAt(p:Program)(k:Nat):PySem.DefRec:=bif k<1000 then Eg p.main.body[k]? else Eg (Yj p.main.body[k%1000]?)[k / 1000-1]?
noncomputable def D6(nm qn:Str)(params:Arguments)(body:List Stmt)(scope:Scope)(pm code doc:Value):FuncData:=
 {name:=nm,qualname:=qn,params,body:=.stmts body,scope,globals:=mainGlobals,closure:=[],defaults:=.none,kwdefaults:=.none,doc,pyModule:=pm,code,builtins:=builtinsNs}
section
set_option maxRecDepth 100000
set_option maxHeartbeats 8000000
open PySem PySem.W PyProof.Rows
noncomputable def ent(P:Params)(k:String)(t:Nat)(v:Value):DictEntry:=⟨PyData.keyHash P (bM k),.str (bM k) t,v⟩
noncomputable def fe:Value:=.str (bM "formlines.errors") 187
noncomputable def nsO(P:Params)(a t L:Nat):Obj:={cls:=.type "dict",data:=.dict #[ent P "__module__" (t+7) fe,ent P "__firstlineno__" (t+11) (.int L (t+10)),ent P "__static_attributes__" (t+12) (.ref (a+7)),ent P "__doc__" (t+13) .none] 2}
noncomputable def clO(a t:Nat)(x:String):Obj:={cls:=.type "type",data:=.cls {name:=bM x,bases:=[.ref 24],mro:=[.ref (a+9),.ref 24,.type "ValueError",.type "Exception",.type "BaseException",.type "object"],ns:=a+8,qualname:=bM x},slots:=#[some (.ref a),none,some (.str (bM x) t),some (.str (bM x) (t+8)),some (.builtin "ValueError.__new__"),some (.bool true)]}
noncomputable def coO(a t L:Nat)(x:String):Obj:={cls:=.type "code",data:=.fields #[.str (bM x) t,.str (bM x) (t+1),.str (bM "/claim/cut.py") (t+2),.int L 0,.int 0 0,.int 0 0,.int 0 0,.int 0 0,.ref a,.bool false,.int 181 0,.ref (a+1),.none,.none,.none,.none,.int (t+3) 0,.int L 0,.str (bM "/claim/cut.py") (t+4)]}
noncomputable def qd:Obj:={cls:=.type "tuple",data:=.seq #[]}
noncomputable def ut:Obj:={cls:=.none,data:=.fields #[]}
noncomputable def bfO(x:String)(v:Value):Obj:={cls:=.type "builtin_function_or_method",data:=.fields #[.builtin x,v]}
noncomputable def frO(a b:Nat)(v:Value):Obj:={cls:=.type "frame",slots:=#[some (.ref a),some (.ref 3),some (.ref b),none,some v,none,some (.ref 0)]}
noncomputable def ldO(P:Params)(a t L:Nat)(x:String):Obj:={cls:=.type "dict",data:=.dict #[ent P "__module__" t fe,ent P "__qualname__" (t+2) (.str (bM x) (t+1)),ent P "__firstlineno__" (t+4) (.int L (t+3)),ent P "__static_attributes__" (t+5) (.ref a)] 4}
noncomputable def suO(a:Nat):Obj:={cls:=.type "super",data:=.fields #[.ref a,.ref a,.ref a]}
noncomputable def F0(P:Params)(a t L:Nat)(x:String):List Obj:=[{cls:=.type "tuple",data:=.seq #[.ref 24]},bfO "type.__prepare__" (.type "type"),ldO P (a+7) (t+7) L x,qd,ut,coO (a+3) (t+2) L x,frO (a+5) (a+2) fe,qd,nsO P a t L,clO a t x,suO (a+9),bfO "object.__init_subclass__" (.ref (a+9))]
noncomputable def yl(P:Params):Obj:={cls:=.type "dict",data:=.dict #[ent P "__module__" 196 fe,ent P "__firstlineno__" 200 (.int 2 199),ent P "__static_attributes__" 201 (.ref 22),ent P "__weakref__" 203 (.ref 25),ent P "__doc__" 204 .none] 3}
noncomputable def CV:Obj:={cls:=.type "type",data:=.cls {name:=bM "FormError",bases:=[.type "ValueError"],mro:=[.ref 24,.type "ValueError",.type "Exception",.type "BaseException",.type "object"],ns:=23,qualname:=bM "FormError",subclasses:=[.ref 37,.ref 49,.ref 61,.ref 73,.ref 85,.ref 97,.ref 109,.ref 121,.ref 133]},slots:=#[some (.ref 15),none,some (.str (bM "FormError") 189),some (.str (bM "FormError") 197),some (.builtin "ValueError.__new__"),some (.bool true)]}
set_option genSizeOf false in
set_option genInjectivity false in
structure MR where
 nm:String
 q:String
 k:Nat
 f:Nat
 c:Nat
 t:Nat
 L:Nat
 n:Nat
 a:Nat
 v:Value
 w:Value
 r:Nat
 T:Nat
noncomputable def mL:List MR:=[⟨"__init__","File.__init__",1050,300,299,632,226,3,296,.none,.none,298,635⟩,⟨"reckon","File.reckon",2050,305,304,638,234,1,301,.none,.none,303,641⟩,⟨"renew","File.renew",3050,312,311,644,238,1,306,(.ref 308),(.ref 309),310,652⟩,⟨"need_year","File.need_year",4050,319,318,655,248,2,313,(.ref 315),(.ref 316),317,660⟩,⟨"put","File.put",5050,326,325,663,252,4,320,(.ref 322),(.ref 323),324,670⟩,⟨"take","File.take",6050,333,332,673,259,4,327,(.ref 329),(.ref 330),331,680⟩,⟨"values","File.values",7050,340,339,683,266,2,334,(.ref 336),(.ref 337),338,688⟩,⟨"value","File.value",8050,347,346,691,270,3,341,(.ref 343),(.ref 344),345,697⟩,⟨"owed","File.owed",9050,352,351,700,276,1,348,.none,.none,350,703⟩,⟨"told","File.told",10050,359,358,706,279,2,353,(.ref 355),(.ref 356),357,711⟩]
noncomputable def fnM(m:MR):Obj:={cls:=.type "function",data:=.func (D6 (bM m.nm) (bM m.q) (dAt pB m.k).params (dAt pB m.k).body (dAt pB m.k).scope (.str (bM "formlines.files") 616) (.ref m.c) .none)}
noncomputable def coM(m:MR):Obj:={cls:=.type "code",data:=.fields #[.str (bM m.nm) m.t,.str (bM m.q) (m.t+1),.str (bM "/claim/cut.py") (m.t+2),.int m.L 0,.int m.n 0,.int 0 0,.int 0 0,.int 3 0,.ref m.a,.bool true,.int 181 0,.ref (m.a+1),.none,m.v,m.w,.ref m.r,.int m.T 0,.int m.L 0,.str (bM "/claim/cut.py") (m.T+1)]}
noncomputable def uM(P:Params):Array DictEntry:=#[ent P "__name__" 165 (.str (bM "law_uf010038_10") 726),ent P "__doc__" 166 .none,ent P "__package__" 167 .none,ent P "__loader__" 168 (.builtin "__main__.__loader__#opaque"),ent P "__spec__" 169 .none,ent P "__annotations__" 170 (.ref 6),ent P "__builtins__" 171 (.ref 4),ent P "__file__" 173 (.str (bM "/claim/cut.py") 172),ent P "__cached__" 174 .none,ent P "FormError" 206 (.ref 24),ent P "NoTable" 222 (.ref 37),ent P "NoForm" 238 (.ref 49),ent P "NoRule" 254 (.ref 61),ent P "Ring" 270 (.ref 73),ent P "NoPaper" 286 (.ref 85),ent P "NoYear" 302 (.ref 97),ent P "NoLine" 318 (.ref 109),ent P "NoChoice" 334 (.ref 121),ent P "TooMany" 350 (.ref 133),ent P "GREATEST" 354 (.int 1000000000 353),ent P "MOST_ROWS" 356 (.int 20 355),ent P "is_from" 365 (.ref 142),ent P "is_number" 372 (.ref 149),ent P "is_row" 379 (.ref 156),ent P "is_table" 385 (.ref 161),ent P "at_number" 397 (.ref 168),ent P "DEEPEST" 401 (.int 8 400),ent P "LONGEST" 403 (.int 8 402),ent P "LETTERS" 405 (.str (bM "abcdefghijklmnopqrstuvwxyz") 404),ent P "SIZES" 442 (.ref 169),ent P "is_word" 448 (.ref 174),ent P "within" 456 (.ref 181),ent P "is_fitting" 467 (.ref 188),ent P "is_one" 479 (.ref 195),ent P "is_rule" 489 (.ref 202),ent P "gathered" 499 (.ref 209),ent P "named" 507 (.ref 216),ent P "MOST_LINES" 511 (.int 40 510),ent P "MOST_TABLES" 513 (.int 5 512),ent P "MOST_CHOICES" 515 (.int 8 514),ent P "steps_to" 528 (.ref 223),ent P "ring_from" 534 (.ref 228),ent P "ring_of" 540 (.ref 233),ent P "form_of" 546 (.ref 238),ent P "order_of" 552 (.ref 243),ent P "papers_of" 563 (.ref 250),ent P "need_taken" 572 (.ref 257),ent P "of_two" 581 (.ref 264),ent P "leaf" 594 (.ref 271),ent P "worth" 603 (.ref 278),ent P "reckoned" 609 (.ref 283),ent P "history" 615 (.ref 288),ent P "MOST_YEARS" 619 (.int 8 618),ent P "File" 725 (.ref 362),ent P "_law_cell_at" 735 (.ref 373),ent P "_law_mixed" 743 (.ref 380),ent P "_law_next" 751 (.ref 387),ent P "_law_whole" 758 (.ref 394),ent P "_law_number" 766 (.ref 401),ent P "_law_table" 778 (.ref 408),ent P "_law_words" 790 (.ref 415),ent P "_law_plain" 801 (.ref 422),ent P "_law_rule" 815 (.ref 429),ent P "_law_sizes" 826 (.ref 436),ent P "_law_order" 836 (.ref 443),ent P "_law_form" 842 (.ref 448),ent P "_law_named" 848 (.ref 453),ent P "_law_at" 858 (.ref 460),ent P "_law_value" 870 (.ref 467),ent P "_law_alone" 878 (.ref 474),ent P "_law_row" 884 (.ref 479),ent P "_law_all" 900 (.ref 486),ent P "_law_changed" 911 (.ref 493),ent P "_law_told" 919 (.ref 500),ent P "_law_tried" 927 (.ref 507),ent P "_law_refused" 937 (.ref 514),ent P "_law_wrong" 954 (.ref 521),ent P "_law_deed" 966 (.ref 528),ent P "_law_noted" 972 (.ref 533),ent P "_law_kept" 981 (.ref 540),ent P "_law_looked" 987 (.ref 545),ent P "_law_step" 993 (.ref 550),ent P "_law_begun" 999 (.ref 555),ent P "law" 1005 (.ref 560)]
noncomputable def o3(P:Params):Obj:={cls:=.type "dict",data:=.dict (uM P) 84}
noncomputable def myK(P:Params):Frag:=[(3,o3 P),(169,{cls:=.type "dict",data:=.dict #[ent P "number" 406 (.int 2 407),ent P "paper" 408 (.int 2 409),ent P "line" 410 (.int 2 411),ent P "earlier" 412 (.int 2 413),ent P "add" 414 (.int 3 415),ent P "take" 416 (.int 3 417),ent P "least" 418 (.int 3 419),ent P "most" 420 (.int 3 421),ent P "part" 422 (.int 3 423),ent P "table" 424 (.int 3 425),ent P "where" 426 (.int 4 427),ent P "choose" 428 (.int 4 429)] 12}),(24,CV),(23,yl P),(37,clO 28 207 "NoTable"),(36,nsO P 28 207 4),(49,clO 40 223 "NoForm"),(48,nsO P 40 223 6),(61,clO 52 239 "NoRule"),(60,nsO P 52 239 8),(73,clO 64 255 "Ring"),(72,nsO P 64 255 10),(85,clO 76 271 "NoPaper"),(84,nsO P 76 271 12),(97,clO 88 287 "NoYear"),(96,nsO P 88 287 14),(109,clO 100 303 "NoLine"),(108,nsO P 100 303 16),(121,clO 112 319 "NoChoice"),(120,nsO P 112 319 18),(133,clO 124 335 "TooMany"),(132,nsO P 124 335 20),(362,{cls:=.type "type",data:=.cls {name:=bM "File",bases:=[.type "object"],mro:=[.ref 362,.type "object"],ns:=361,qualname:=bM "File"},slots:=#[none,none,some (.str (bM "File") 620),some (.str (bM "File") 628),some (.builtin "object.__new__"),some (.bool true)]}),(361,{cls:=.type "dict",data:=.dict #[ent P "__module__" 627 (.str (bM "formlines.files") 616),ent P "__firstlineno__" 631 (.int 224 630),ent P "__init__" 637 (.ref 300),ent P "reckon" 643 (.ref 305),ent P "renew" 654 (.ref 312),ent P "need_year" 662 (.ref 319),ent P "put" 672 (.ref 326),ent P "take" 682 (.ref 333),ent P "values" 690 (.ref 340),ent P "value" 699 (.ref 347),ent P "owed" 705 (.ref 352),ent P "told" 713 (.ref 359),ent P "__static_attributes__" 718 (.ref 360),ent P "__dict__" 720 (.ref 363),ent P "__weakref__" 722 (.ref 364),ent P "__doc__" 723 .none] 4})]++mL.flatMap λm=>[(m.f,fnM m),(m.c,coM m)]
noncomputable def Up(no:List Nat)(l:List Stmt):List Stmt:=(l.zipIdx.filter λx=>!no.contains x.2).map (·.1)
noncomputable def viw:Program:={pB with main:={pB.main with body:=Up [0,11,19,31,40,48,51] pB.main.body}}
theorem wZ0:(OpenLaw.row PySem.Challenge.rw_uf010038_10).wellSaid=true:=by kernel_rfl
theorem wZ:OpenLaw.wellSaid PySem.Challenge.rw_uf010038_10=true:=by
 unfold OpenLaw.wellSaid
 rw [wZ0]
 kernel_rfl
noncomputable def vz(s:Shared):Bool:=xlAt viw [] s&&recOk (RowW.records (OpenRow.toRowW (OpenLaw.row PySem.Challenge.rw_uf010038_10))) s
noncomputable def mn:Value:=.str (bM "__main__") 164
noncomputable def tY:List Obj->Nat->BT->BT
 | [],_,t=>t
 | o::l,n,t=>tY l (n+1) (t.ins n o)
noncomputable def qN(P:Params)(os:OsState):SharedT:=⟨tY [boot_o_0 P,boot_o_1 P,boot_o_2 P,boot_o_3 P,boot_o_4 P,boot_o_5 P,boot_o_6 P,boot_o_7 P,boot_o_8 P,boot_o_9 P,boot_o_10 P,qd,ut,coO 11 182 1 "<module>",frO 13 3 mn] 0 .nil,15,{},#[],boot_drawn,187,os⟩
noncomputable def stM(P:Params)(os:OsState):SharedT:=⟨tY ([boot_o_0 P,boot_o_1 P,boot_o_2 P,{cls:=.type "dict",data:=.dict #[ent P "__name__" 165 (.str (bM "formlines.errors") 187),ent P "__doc__" 166 .none,ent P "__package__" 167 .none,ent P "__loader__" 168 (.builtin "__main__.__loader__#opaque"),ent P "__spec__" 169 .none,ent P "__annotations__" 170 (.ref 6),ent P "__builtins__" 171 (.ref 4),ent P "__file__" 173 (.str (bM "/claim/cut.py") 172),ent P "__cached__" 174 .none,ent P "FormError" 206 (.ref 24),ent P "NoTable" 222 (.ref 37),ent P "NoForm" 238 (.ref 49),ent P "NoRule" 254 (.ref 61),ent P "Ring" 270 (.ref 73),ent P "NoPaper" 286 (.ref 85),ent P "NoYear" 302 (.ref 97),ent P "NoLine" 318 (.ref 109),ent P "NoChoice" 334 (.ref 121),ent P "TooMany" 350 (.ref 133)] 19},boot_o_4 P,boot_o_5 P,boot_o_6 P,boot_o_7 P,boot_o_8 P,boot_o_9 P,boot_o_10 P,qd,{cls:=.none,data:=.fields #[.int 2 0,.int 0 0,.ref 20,.int 4 0,.int 0 0,.ref 33,.int 6 0,.int 0 0,.ref 45,.int 8 0,.int 0 0,.ref 57,.int 10 0,.int 0 0,.ref 69,.int 12 0,.int 0 0,.ref 81,.int 14 0,.int 0 0,.ref 93,.int 16 0,.int 0 0,.ref 105,.int 18 0,.int 0 0,.ref 117,.int 20 0,.int 0 0,.ref 129]},coO 11 182 1 "<module>",frO 13 3 mn,{cls:=.type "tuple",data:=.seq #[.type "ValueError"]},bfO "type.__prepare__" (.type "type"),ldO P 22 196 2 "FormError",qd,ut,coO 18 191 2 "FormError",frO 20 17 fe,qd,yl P,CV,{cls:=.type "getset_descriptor",data:=.fields #[.str (bM "__weakref__") 202,.ref 24,.builtin "ExceptionGroup.__weakref__",.none]},suO 24,bfO "object.__init_subclass__" (.ref 24)]++F0 P 28 207 4 "NoTable" ++ F0 P 40 223 6 "NoForm" ++ F0 P 52 239 8 "NoRule" ++ F0 P 64 255 10 "Ring" ++ F0 P 76 271 12 "NoPaper" ++ F0 P 88 287 14 "NoYear" ++ F0 P 100 303 16 "NoLine" ++ F0 P 112 319 18 "NoChoice" ++ F0 P 124 335 20 "TooMany") 0 .nil,136,{},#[],boot_drawn,351,os⟩
noncomputable def qZ:Env:={scope:=pB.main.scope,locals:=mainNs,globals:=mainNs,cells:=[],code:=.ref 13,frame:=some 14}
noncomputable def bdT:List Stmt:=behindTheImports pB
noncomputable def cdT:Code:=.body bdT qZ
noncomputable def p00:Pos:=⟨0,0,0,0⟩
noncomputable def pM:Pos:=⟨20,0,21,8⟩
theorem Ly:opening pB=plainProg pB.main.scope.names:=by kernel_rfl
theorem cn6(s:Shared):fenceModules? pB s=some s:=by kernel_rfl
theorem Ru(w:World)(os:OsState):topGo treeTable pB w 11 (some (.ref 6)) 12 ⟨boot_heap w.params,#[],boot_drawn,boot_toks,os⟩ (topStub pB)=some ((qN w.params os).abs,⟨denote treeTable cdT,cdT,p00,[topFrame p00]⟩):=by kernel_rfl
theorem Vq(w:World)(os:OsState):segRun treeTable pB w 11 (some (.ref 6)) 1 1 (qN w.params os).abs (blockOf bdT qZ cdT p00 [topFrame p00])=some (.next,(qN w.params os).abs,cdT,p00):=by kernel_rfl
theorem Js(w:World):((boot_heap w.params).isNs mainGlobals&&(#[]:Array GenState).size==0,(boot_heap w.params).objs.size,(boot_heap w.params).nsMap mainGlobals "__annotations__")=(true,11,some (.ref 6)):=by kernel_rfl
theorem Wm{w:World}{c:Code}:topRun treeTable pB w 11 (some (.ref 6)) 2 s ⟨doneF .next,c,pos,[topFrame p00]⟩=some s:=by
 obtain⟨h,g,d,k,os⟩:=s;rfl
theorem Xu(w:World)(os:OsState):segRunT treeTable pB w 11 (some (.ref 6)) 1 2163 (qN w.params os) (piecesOf (bdT.take 11) qZ cdT p00 [topFrame p00])=some (.next,stM w.params os,cdT,pM):=by kernel_rfl
noncomputable abbrev F4:=kHook myK [3,169,24,23,37,36,49,48,61,60,73,72,85,84,97,96,109,108,121,120,133,132,362,361,300,299,305,304,312,311,319,318,326,325,333,332,340,339,347,346,352,351,359,358] (λ_=>rfl)
noncomputable abbrev F1:List Str:=[bM "SIZES"]
noncomputable abbrev FN:List Str:=importedModules pB.main.body
noncomputable abbrev UV(s:Shared):=(seen ((recsOf viw).map (·.name)) (ownsOf viw) [] {s with gens:=#[]},s.heap.bltView,s.heap.keysOk (looseW viw F1) ((recsOf viw).map (·.name)) ((litsOf viw).map (·.1)) ((clssOf viw (looseW viw F1)).map (·.name))&&s.heap.accountedOkI FN&&s.heap.isNs mainGlobals&&s.heap.isNs builtinsNs&&tablesOk viw s.heap&&vz s&&(if true then s.gens.size==0 else !leftWithCleanup s.gens),clsSeenW viw F1 s)
noncomputable abbrev Xw(s:Shared):=(tabsOk viw s,pinSeenD viw (drecsOf viw) s,plainSeenE viw (looseW viw F1) s,plainSeenD viw F1 s,wideSeen viw s)
noncomputable def uH(w:World)(os:OsState):=segRunT treeTable pB w 11 (some (.ref 6)) 1 2554 (stM w.params os) (piecesOf (bdT.drop 11) qZ cdT pM [topFrame p00])
noncomputable def rn(os:OsState)(w:World):=(uH w os).map λx=>(x.1,x.2.2.1,(staticsOk FN (boot_heap w.params) x.2.1.abs.heap&&namesBound pB x.2.1.abs.heap&&gensDone x.2.1.abs&&laidKept (boot_heap w.params) x.2.1.abs.heap),UV x.2.1.abs,Hook.obs F4 x.2.1.abs)
noncomputable def sX(os:OsState)(w:World):=(uH w os).map λx=>Xw x.2.1.abs
noncomputable def qL(w:World):=some (Flow.next,cdT,true,(expectedOf viw,bltViewBooted,true,clsGoodW viw F1),Hook.val F4 w)
noncomputable def qp(_:World):=some (true,pinGoodD (drecsOf viw),plainGoodE viw (looseW viw F1),plainGoodD viw F1,wideGood viw)
theorem bA9(w:World)(os:OsState):rn os (w.withFollow "special-get-raises" true)=qL (w.withFollow "special-get-raises" true):=by kernel_rfl
theorem PT(w:World)(os:OsState):rn os (w.withFollow "special-get-raises" false)=qL (w.withFollow "special-get-raises" false):=by kernel_rfl
theorem Xg(w:World)(os:OsState):sX os (w.withFollow "special-get-raises" true)=qp (w.withFollow "special-get-raises" true):=by kernel_rfl
theorem bq8(w:World)(os:OsState):sX os (w.withFollow "special-get-raises" false)=qp (w.withFollow "special-get-raises" false):=by kernel_rfl
theorem Fw{α:Type _}{f g:World->α}(h1:∀ w:World,f (w.withFollow "special-get-raises" true)=g (w.withFollow "special-get-raises" true))(h2:∀ w:World,f (w.withFollow "special-get-raises" false)=g (w.withFollow "special-get-raises" false))(w:World):f w=g w:=by
 rw[<- World.withFollow_self w "special-get-raises"];cases w.params.followText "special-get-raises" with
 | true=>exact h1 w
 | false=>exact h2 w
theorem WT{α β γ δ ε ζ η θ ι:Type _}{a a':α}{b b':β}{c c':γ}{d d':δ}{e e':ε}{f f':ζ}{g g':η}{h h':θ}{i i':ι}(x:(a,b,c,i)=(a',b',c',i'))(y:(d,e,f,g,h)=(d',e',f',g',h')):(a,b,c,d,e,f,g,h,i)=(a',b',c',d',e',f',g',h',i'):=by
 cases x;cases y;rfl
theorem bG2{w:World}{r:Shared}{n:Nat}{ann:Option Value}(z1:(s.heap.isNs mainGlobals&&s.gens.size==0)=true)(z2:s.heap.objs.size=n)(z3:s.heap.nsMap mainGlobals "__annotations__" = ann)(h:topRun treeTable pB w n ann 5000 s (topStub pB)=some r)
  (l:(staticsOk (importedModules pB.main.body) s.heap r.heap&&namesBound pB r.heap&&gensDone r&&laidKept s.heap r.heap)=true):topFrom treeTable pB w 5000 s=some r:=by
 unfold topFrom;rw[z1,z2,z3,h];show(match staticsOk (importedModules pB.main.body) s.heap r.heap&&namesBound pB r.heap&&gensDone r&&laidKept s.heap r.heap with | true=>_ | false=>_)=_
 rw[l]
theorem left:LeftO pB viw F1 vz (Hook.obs F4) (Hook.val F4) 5000:=λw=>by
 obtain⟨⟨h,gs,d,k,os⟩,e,e'⟩:=cL.mp (boot_open (N:=5000) Ly (by decide) cn6 w)
 obtain⟨rfl,rfl,rfl,rfl⟩:h=boot_heap w.params/\gs=#[]/\d=boot_drawn/\k=boot_toks:=by simpa using e'
 obtain⟨z1,z2,z3⟩:_/\_/\_:=by simpa only[Prod.mk.injEq] using Js w
 have hA:=Fw (f:=rn os) (g:=qL) (λw=>bA9 w os) (λw=>PT w os) w
 have hB:=Fw (f:=sX os) (g:=qp) (λw=>Xg w os) (λw=>bq8 w os) w
 unfold rn qL at hA;unfold sX qp at hB;obtain⟨⟨f,s',c',q'⟩,h1,h2⟩:=cL.mp hA;rw[h1] at hB
 replace hB:=Option.some.inj hB
 unfold uH at h1;obtain⟨h2,h3⟩:=Prod.mk.inj h2;obtain⟨h4,h5⟩:=Prod.mk.inj h3;obtain⟨l1,h6⟩:=Prod.mk.inj h5;obtain⟨l2,l3⟩:=Prod.mk.inj h6;dsimp only at h2 h4
 subst h2 h4;have r:topRun treeTable pB w 11 (some (.ref 6)) (12+(1+(2163+(2554+2)))) ⟨boot_heap w.params,#[],boot_drawn,boot_toks,os⟩ (topStub pB)=some s'.abs:=by
  refine go_top (Ru w os) (piece_block (Vq w os) ?_);have a:=piece_app (l:=bdT.drop 11) (rest:=[]) (segRun_of h1) (piece_nil Wm);rw[dC] at a;have b:=piece_app (l:=bdT.take 11) (rest:=bdT.drop 11) (segRun_of (Xu w os)) a;rw[List.take_append_drop] at b;exact b
 have r:=topRun_mono (5000-(12+(1+(2163+(2554+2))))) _ _ _ _ r;unfold openEnds;rw[e];show(topFrom treeTable pB w 5000 _).map _=_;rw[bG2 z1 z2 z3 r l1];exact congrArg some (Prod.ext (WT l2 hB) l3)
end
theorem l_1{a b:Nat}(Z:a=b+1):b<=a:=Nat.le.intro (id (lE Z))
theorem l_2{a b:Nat}(Z:a<=b)(S:¬a<b):a=b:=gf Z (iU.mp S)
theorem l_3{a b c:Nat}(Z:a+b=c+1)(S:a<=c):a+1+(b-1)=c+1:=by cases b with | zero=>exact absurd (cu Z.symm) (Nat.not_le.mpr (iC S)) | succ b=>exact(Nat.succ_add_eq_add_succ a b).trans Z
theorem l_4{a b c:Nat}(Z:a+b=c+1)(S:a<=c):b-1<b:=by cases b with | zero=>exact absurd (cu Z.symm) (Nat.not_le.mpr (iC S)) | succ b=>exact gF _
theorem l_5{a b c d e:Nat}(Z:a<=b)(S:c<=d)(q:d<a)(X:e=c):e<=b:=X▸bN S (bN (dK q) Z)
theorem l_6{a b c d e:Nat}(Z:a+b<=c)(S:d=a)(q:e=b):d+e<=c:=by simp[*];done
theorem l_7{a b c:Nat}(Z:a<=b)(S:c=a):c<=b:=le_of_eq_of_le S Z
theorem l_8{a:Int}(Z:a<=2 ^ 60):a<2 ^ 64:=dz Z (by decide)
theorem l_9{a:Int}(Z : -2 ^ 60<=a) : -2 ^ 64<a:=jh (by decide) Z
theorem TV{a b:Nat}(Z:¬a<b):b<=a:=dO Z
theorem W6{a:Int}{b:Nat}(Z:0<=a)(S:a<b):a.toNat<b:=(jK Z).mpr S
theorem Dy{a b c:Nat}(Z:a-b=c+1):a-(b+1)=c:=by rw[Nat.sub_add_eq,Z];rfl
theorem Dj{a b c:Nat}(Z:a-b=c+1):b<a:=Nat.lt_of_sub_eq_succ Z
theorem Bm{a b:Nat}(Z:a-b=0)(S:b<=a):b=a:=gf S (iB.mp Z)
theorem vq{a b c:Nat}(Z:a=b)(S:c<b):c<a:=by subst_vars;assumption
theorem Ju{a b c:Nat}(Z:a<=b)(S:¬a<=c)(q:0=b):False:=S (bN (q▸Z) (cP _))
theorem xx{a:Nat}:¬(↑a:Int)<0:=Int.not_ofNat_neg a
theorem Be{a b c d:Nat}(Z:a+1<=8*b)(S:c+8*b<d):c+1+a<d:=dq (by rw[gK,jL 1];exact fG Z _) S
theorem MP{a b c d e:Nat}(Z:min a b+1<=8*c)(S:d+8*c<e):d+min (a+1) (b+1)<e:=dq (by rw[iI];exact fG Z _) S
theorem xZ{a b c d:Nat}(Z:a<=8*b)(S:c+8*b<d):c+a<d:=dq (fG Z _) S
theorem BK{a:Nat}:0+a*1=(↑(0+a):Int):=dF (↑a*1)
theorem Du : -(2:Int) ^ (60:Nat)<=(0:Int)/\(0:Int)<=(2:Int) ^ (60:Nat):=by decide
theorem Uv{a:Nat}{b:Int}(Z:a<=10000)(S:0<=b)(c:b<a) : -9223372036854775808<=b/\b<9223372036854775808:=⟨cQ (by decide) S,fu c (dz (cZ.mpr Z) (by decide))⟩
theorem Gy{a:Int}{b:Nat}(Z:a<=b):min a.toNat b=a.toNat:=by simp[*];done
theorem Um{a:Nat}{b:Int}(Z:a<=10000)(S:0<=b)(c:b<=a) : -9223372036854775808<=b/\b<9223372036854775808:=⟨cQ (by decide) S,dz c (dz (cZ.mpr Z) (by decide))⟩
theorem Ei{a b:Nat}(Z:a=b):b<=a:=cu (id (lE Z))
theorem bm6{a b c:Nat}(Z:a+(b+1)<c):a+1+b<c:=by rw[Nat.add_right_comm];exact Z
theorem Ez{a b:Nat}(Z:a<b):a≠b:=dU Z
theorem Mu{a b:Nat}(Z:a<b):0<(↑b:Int)-(↑a:Int):=by simp[*];done
theorem Ig{a:Int}(Z:0<=a):0<=a+1:=Int.le_add_one Z
theorem Gq{a b:Nat}(Z:a<=4)(S:b<a):b<4:=cR S Z
theorem qJ{a:Nat}(Z:(↑a:Int)+1=4):a=3:=Nat.succ.inj (jx.mp Z)
theorem uh{a:Nat}(Z:(↑a:Int)+1=3):a=2:=Nat.succ.inj (jx.mp Z)
theorem A6{a:Nat}(Z:(↑a:Int)+1=2):a=1:=Nat.succ.inj (jx.mp Z)
theorem Oj{a b:Nat}(Z:a=0)(S:b=0):max a b=0:=Z.symm▸S
theorem Ob{a b c:Nat}(Z:a=b)(S:b<=c):a<=min b c:=by simp[*];done
theorem NQ{a b:Nat}(Z:a=b+4∨a=b+3∨a=b∨a=b+1):b<=a:=by rcases Z with rfl | rfl | rfl | rfl<;>first | exact cO _ | exact eG ..
theorem uo{a:Nat}(Z:1<=(↑a:Int)):1<=a:=cJ.mp Z
theorem ym{a b c d e f:Nat}(Z:a<=40)(S:b=a)(q:0+(↑c:Int)<(↑b:Int))(X:d<=e)(E:f<=c)(U:e<=8*40):d+f<=10000:=by subst S;lia
theorem Ft{a b c:Nat}(Z:a<=8)(S:b=a)(q:0+(↑c:Int)<(↑b:Int)):c<=8:=bN (dK (cJ.mp (dF (c:Int)▸q))) (bN (cu S) (bN Z (by decide)))
theorem Ck{a b c:Nat}(Z:a<=40)(S:b=a)(q:0+(↑c:Int)<(↑b:Int)):c<=100:=bN (dK (cJ.mp (dF (c:Int)▸q))) (bN (cu S) (bN Z (by decide)))
theorem T4{a b c:Nat}(Z:a<=8)(S:b=a)(q:0+(↑c:Int)<(↑b:Int)):c<=100:=bN (dK (cJ.mp (dF (c:Int)▸q))) (bN (cu S) (bN Z (by decide)))
theorem pU{a b c:Nat}(Z:a=b)(S:0+(↑c:Int)<(↑a:Int)):c<b:=Z▸cJ.mp (dF (c:Int)▸S)
theorem L9{a:Nat}(Z:a<=100):a<=10000:=bN Z (cT ..)
theorem P2{a b:Nat}(Z:a<=8)(S:b<a):b<=100:=bN (dK S) (bN Z (by decide))
theorem Bp{a b:Nat}(Z:a<=8)(S:b=a):b<=100:=bN (cu S) (bN Z (by decide))
theorem Bh{a:Nat}(Z:a<=1000):a<=10000:=bN Z (cT ..)
theorem Ab{a:Nat}(Z:a<=8):(↑a:Int)-0<=10000:=cZ.mpr (bN Z (by decide))
theorem Ih{a:Nat}{b:Int}(Z:a<=40)(S:b<a):b.toNat<=100:=bN (iJ.mpr (gV S)) (bN Z (by decide))
theorem bK4{a:Int}{b:Nat}(Z:a<9)(S:b=9):a<b:=by subst_vars;assumption
theorem JQ{a:Int}(Z:a<4):a.toNat<4:=by simp[*];done
theorem rA{a b:Nat}(Z:(↑a:Int)<(↑b:Int)):a<b:=cJ.mp Z
theorem Ax{a:Nat}(Z:a<=8):(↑a:Int)<2 ^ 60:=cJ.mpr (dq Z (by decide))
theorem Ew{a:Nat}(Z:1<=a):0<(↑a:Int):=cJ.mpr Z
theorem Ca{a:Int}{b:Nat}(Z:a<b):a<=b-1:=eZ Z
theorem Ej{a:Int}(Z:0<=a):1<=(1+a).toNat:=by lia
theorem D0{a:Nat}:0<=(↑a:Int):=du a
theorem yH{a b:Nat}(Z:a<b):(↑a:Int)<=(↑b:Int)-1:=eZ (cJ.mpr Z)
theorem vB{a:Nat}{b:Int}(Z:a=b)(S:b<=8):a<=100:=cZ.mp (cQ (jM Z) (cQ S (by decide)))
theorem bJ9{a c:Nat}{b:Int}(Z:a<b)(S:c=b):a<c:=cJ.mp (S▸Z)
theorem uZ{a:Nat}(Z:a<=8):a<=100:=bN Z (cT ..)
theorem Ea{a:Nat}(Z:a<8990):a<9000:=bN Z (cT ..)
theorem FT{a b:Nat}(Z:a<=1)(S:3<=b):a+2<=8*b:=bN (fQ Z 2) (bN S (Nat.le_mul_of_pos_left _ (by decide)))
theorem X7{a b c:Nat}(Z:a<=8)(S:b=a)(q:(↑c:Int)<(↑b:Int)):c<=100:=bN (dK (cJ.mp q)) (bN (cu S) (bN Z (by decide)))
theorem Hw{a b c:Nat}(Z:a=b)(S:(↑c:Int)<(↑a:Int)):(↑c:Int)<=(↑b:Int)-1:=Z▸eZ S
theorem yM{a b c:Nat}(Z:a=b)(S:(↑c:Int)<(↑a:Int)):c<b:=cJ.mp (Z▸S)
theorem Qf{a b:Nat}(Z:a=b)(S:1<=b):0<(↑a:Int):=Z▸cJ.mpr S
theorem cc6{a b:Nat}(Z:1<=a)(S:b=a):0<(↑b:Int):=S▸cJ.mpr Z
theorem Hz{a:Nat}(Z:a<8940):a<8950:=bN Z (cT ..)
theorem uT{a:Nat}(Z:a<=40):a<=100:=bN Z (cT ..)
theorem Uq{a b c:Nat}(Z:a=b)(S:0+(↑c:Int)<(↑b:Int)):0+(↑c:Int)<(↑a:Int):=by subst_vars;assumption
theorem bj8{a:Int}{b c:Nat}(Z:a<b)(S:c=b):a<c:=S▸Z
theorem ye{a b:Nat}(Z:0+(↑a:Int)<(↑b:Int)):(↑a:Int)<(↑b:Int):=dF (a:Int)▸Z
theorem yE{a b c:Nat}(Z:a<=100)(S:a=b)(q:c<=b):c<=10000:=bN q (bN (cu S.symm) (bN Z (by decide)))
theorem Bo{a:Nat}(Z:(↑a:Int)<=20):a<=20:=cZ.mp Z
theorem NK{a b c:Nat}(Z:a=b)(S:3+(↑c:Int)<(↑a:Int)):3+c<b:=cJ.mp (Z▸S)
theorem Ro{a b:Int}(Z:0<=a/\a<b-6):7+a<=b:=by lia
theorem bv0{a b:Int}(Z:0<=a/\a<b-6):1<=7+a:=by lia
theorem Dq{a b:Nat}(Z:a<=100)(S:b=a):b<=10000:=bN (cu S) (bN Z (by decide))
theorem Ry{a b c:Nat}(Z:a=b)(S:c<a):(↑c:Int)<(↑b:Int):=Z▸cJ.mpr S
theorem cu4{a b:Nat}(Z:(↑a:Int)<=5)(S:b=a):b<=5:=cZ.mp (S▸Z)
theorem za{a:Nat}:((↑a:Int)-0).toNat=a:=Nat.add_zero a
theorem CW{a:Int}{b c:Nat}(Z:a<=40)(S:b<=a)(q:c=b):c<=100:=bN (cu q) (cZ.mp (cQ S (cQ Z (by decide))))
theorem tQ{a b c:Nat}(Z:a=b)(S:(↑c:Int)<(↑b:Int)):c<a:=cJ.mp (Z▸S)
theorem FQ{a:Nat}(Z:5<=a):1<=a:=Nat.one_le_of_lt Z
theorem Cq{a:Int}(Z:a<=8):a<=100:=cQ Z (by decide)
theorem zc{a:Nat}(Z:(↑a:Int)<=5):(↑a:Int)<=100:=cQ Z (by decide)
theorem yd{a:Int}{b:Nat}(Z:a<=40)(S:(↑b:Int)<=a):(↑b:Int)<=100:=cQ S (cQ Z (by decide))
theorem Gk{a:Int}(Z:0<=a):1<=1+a:=iW Z
theorem Ku{a:Int}{b:Nat}(Z:a<=8)(S:a=(↑(b+1):Int)):b+1<=8:=cZ.mp (S▸Z)
theorem YZ{a:Int}{b:Nat}(Z:a<=8)(S:a=(↑(b+1):Int)):b<8:=cZ.mp (S▸Z)
theorem aD2{a b:Int}(Z:0<=a):b+1<=b+1+a:=iW Z
theorem GF{a b:Nat}(Z:0+(↑a:Int)<(↑b:Int)):a<b:=cJ.mp (dF (a:Int)▸Z)
theorem Do{a b:Int}{c:Nat}(Z:a<b)(S:c=b)(q:c<=100):a<2 ^ 63:=fu Z (dz (jM S.symm) (dz (cZ.mpr q) (by decide)))
theorem bw7{a b:Int}{c d:Nat}(Z:a<b)(S:c=b)(q:d=c):a<d:=by simp[*];done
theorem Sx{a b:Nat}{c d:Int}(Z:a=b)(S:c<d)(q:b=d):c<a:=by subst_vars;assumption
theorem wG{a b:Nat}(Z:a<b+1)(S:¬a=b):a<b:=Nat.lt_of_le_of_ne (eH Z) S
theorem bn6{a b c:Nat}(Z:a=b)(S:(↑a:Int)<(↑c:Int)):b<c:=cJ.mp (Z▸S)
theorem yt{a:Nat}{b c:Int}(Z:a=b)(S:a<=100)(q:c<b):c<2 ^ 63:=fu q (dz (jM Z.symm) (dz (cZ.mpr S) (by decide)))
theorem Yk{a c:Nat}{b d:Int}(Z:a=b)(S:c=a)(q:d<b):d<c:=by simp[*];done
theorem GJ{a b c:Nat}(Z:a<=100)(S:b=a)(q:0+(↑c:Int)<(↑b:Int)):c<=100:=bN (dK (cJ.mp (dF (c:Int)▸q))) (bN (cu S) (bN Z (by decide)))
theorem bI9{a:Nat}(Z:(↑a:Int)<2 ^ 63):¬(↑a:Int)≥2 ^ 63:=(fun{a b}=>Int.not_le.mpr) Z
theorem Zt{a b:Nat}(Z:a=b)(S:b<=8):a<=100:=bN (cu Z) (bN S (by decide))
theorem zP{a b c:Nat}{d:Prop}(Z:a=b)(S:a<c)(q:b=c):d:=absurd S (iU.mpr (cu (q.symm.trans Z.symm)))
theorem Cp{a b c:Nat}{d:Prop}(Z:a<b)(S:a=c)(q:b=c):d:=absurd Z (iU.mpr (cu (q.trans S.symm)))
theorem Bj{a b:Nat}(Z:a<=8)(S:b=a):b<=10000:=bN (cu S) (bN Z (by decide))
theorem ZF{a b:Nat}(h1:a=(2:Nat)+((3:Int)-(0:Int)).toNat):(5:Nat)<=a+b:=Nat.le.intro (congrFun (congrArg HAdd.hAdd (id (lE h1))) b)
theorem bc2{a b c d:Nat}(Z:a<8950)(S:(↑b:Int)<5)(q:0+(↑c:Int)<(↑b:Int))(X:d<=a+2*c):d<8990:=dq X (cR (Nat.add_lt_add_of_lt_of_le Z (jb 2 (dK (cJ.mp (fu (dF (c:Int)▸q) S))))) (by decide))
theorem YJ{a:Nat}:0<=0+(↑a:Int):=lg (0+a)
theorem bH6{a b:Nat}{c:Int}(Z:a=b)(S:c.toNat<b):c.toNat<a:=by subst_vars;assumption
theorem cn1{a b c:Nat}(Z:a=b)(S:0+(↑c:Int)<(↑a:Int)):(↑c:Int)<(↑b:Int):=(Z▸dF (c:Int)▸S:_)
theorem bl5{a b:Nat}(Z:a<=100)(S:0+(↑b:Int)<(↑a:Int)):(↑b:Int)<2 ^ 63:=fu (dF (b:Int)▸S) (dz (cZ.mpr Z) (by decide))
theorem Qg{a b c d:Nat}(Z:a=b)(S:c=b)(q:0+(↑d:Int)<(↑c:Int)):d<a:=cJ.mp (by rw[Z,<- S];exact dF (d:Int)▸q)
theorem Jr{a b:Nat}(Z:0+(↑a:Int)<(↑b:Int)-1):(↑a:Int)+1<(↑b:Int):=kJ (dF (a:Int)▸Z)
theorem Xk{a:Nat}:0<=(↑a:Int)+1:=lg (a+1)
theorem be7{a b:Nat}(Z:0+(↑a:Int)<(↑b:Int)-1):(↑a:Int)<(↑b:Int):=fu (dF (a:Int)▸Z) (my _ (by decide))
theorem bC7{a b:Nat}(Z:0+(↑a:Int)<(↑b:Int)-1):a+1<b:=cJ.mp (kJ (dF (a:Int)▸Z))
theorem bY0{a b:Nat}(Z:0+(↑a:Int)<(↑b:Int)-1):a<b:=cJ.mp (fu (dF (a:Int)▸Z) (my _ (by decide)))
theorem Fz{a:Nat}(Z:a<=63):a<=100:=bN Z (cT ..)
theorem cw9{a b c:Nat}(Z:a<=100)(S:b=a)(q:0+(↑c:Int)<(↑b:Int)):(↑c:Int)<2 ^ 63:=fu (dF (c:Int)▸q) (dz (cZ.mpr (bN (cu S) Z)) (by decide))
theorem VL{a b c d e:Nat}(Z:a=b)(S:c=a)(q:d=b)(X:0+(↑e:Int)<(↑d:Int)):e<c:=cJ.mp (by rw[S,Z,<- q];exact dF (e:Int)▸X)
theorem bU1{a b c d:Nat}(Z:a=b)(S:c=d)(q:(↑c:Int)<(↑a:Int)):d<b:=S▸Z▸cJ.mp q
theorem ZK{a b c:Nat}(Z:a=b)(S:b<=c)(q:¬(↑a:Int)<(↑c:Int)):b=c:=gf S (cZ.mp (lA.mp (Z▸q)))
theorem Zd{a:Int}{b:Nat}(Z:a<b)(S:(↑a.toNat:Int)=a):a.toNat<b:=cJ.mp (S▸Z)
theorem cq3{a b c:Nat}(Z:a<=100)(S:b=a)(q:0+(↑c:Int)<(↑b:Int)):c<=10000:=bN (dK (cJ.mp (dF (c:Int)▸q))) (bN (cu S) (bN Z (by decide)))
theorem U4{a:Nat}(Z:a<=10000):(↑a:Int)<2 ^ 63:=cJ.mpr (dq Z (by decide))
theorem Kc{a b c:Nat}(Z:a=b)(S:¬c<=b):a<=min c b:=by subst Z;lia
theorem Ni{a d n:Nat}(h:1<=d)(k:a+d<n):a+1+(d-1)<n:=by rw[gK,Nat.add_sub_of_le h];exact k
theorem bF9{u a d n:Nat}(h:1<=d)(c:u<=a+8)(k:a+8*d<n):u+8*(d-1)<n:=by cases d with | zero=>cases h | succ e=>exact dq (fQ c _) (by rw[gK,jL 8];exact k)
theorem Sw{x y A C:Sort _}{D E c:x->y->A->C->Prop}{P:Prop}(h:∃ q u w T,D q u w T/\E q u w T/\c q u w T)(k:∀ q u w T,D q u w T->E q u w T->c q u w T->P):P:=h.elim λq h=>h.elim λu h=>h.elim λw h=>h.elim λT h=>k q u w T h.1 h.2.1 h.2.2
set_option genSizeOf false
theorem tO{n:Int}{k:Nat}(Y:0<=n)(h:n<k):n.toNat<k:=(jK Y).mpr h
theorem co1{n:Nat}(h:a<=n):max (0:Int) (min (a:Int) n)=a:=by rw[mz (cZ.mpr h)];exact jy (du _)
theorem d5{c q P:Prop}(h:c/\q)(k:c->q->P):P:=k h.1 h.2
theorem i4{q u c P:Prop}(h:q/\u/\c)(k:q->u->c->P):P:=k h.1 h.2.1 h.2.2
theorem H4{q u c Y P:Prop}(h:q/\u/\c/\Y)(k:q->u->c->Y->P):P:=k h.1 h.2.1 h.2.2.1 h.2.2.2
theorem zW{q u c Y w y A P:Prop}(h:q/\u/\c/\Y/\w/\y/\A)(k:q->u->c->Y->w->y->A->P):P:=k h.1 h.2.1 h.2.2.1 h.2.2.2.1 h.2.2.2.2.1 h.2.2.2.2.2.1 h.2.2.2.2.2.2
theorem d4{q:Sort _}{u:q->Prop}{P:Prop}(h:∃ c,u c)(k:∀ c,u c->P):P:=h.elim λc h=>k c h
theorem a7{q:Sort _}{u w:q->Prop}{P:Prop}(h:∃ c,u c/\w c)(k:∀ c,u c->w c->P):P:=h.elim λc h=>k c h.1 h.2
theorem f5{u:Sort _}{w y c:u->Prop}{P:Prop}(h:∃ q,w q/\y q/\c q)(k:∀ q,w q->y q->c q->P):P:=h.elim λq h=>k q h.1 h.2.1 h.2.2
theorem F2{u:Sort _}{w y c Y:u->Prop}{P:Prop}(h:∃ q,w q/\y q/\c q/\Y q)(k:∀ q,w q->y q->c q->Y q->P):P:=h.elim λq h=>k q h.1 h.2.1 h.2.2.1 h.2.2.2
theorem Jf{u:Sort _}{w y c Y A C:u->Prop}{P:Prop}(h:∃ q,w q/\y q/\c q/\Y q/\A q/\C q)(k:∀ q,w q->y q->c q->Y q->A q->C q->P):P:=h.elim λq h=>k q h.1 h.2.1 h.2.2.1 h.2.2.2.1 h.2.2.2.2.1 h.2.2.2.2.2
theorem j7{u w:Sort _}{y:u->w->Prop}{P:Prop}(h:∃ c q,y c q)(k:∀ c q,y c q->P):P:=h.elim λc h=>h.elim λq h=>k c q h
theorem i5{u w:Sort _}{y A:u->w->Prop}{P:Prop}(h:∃ c q,y c q/\A c q)(k:∀ c q,y c q->A c q->P):P:=h.elim λc h=>h.elim λq h=>k c q h.1 h.2
theorem g6{w y:Sort _}{A C c:w->y->Prop}{P:Prop}(h:∃ q u,A q u/\C q u/\c q u)(k:∀ q u,A q u->C q u->c q u->P):P:=h.elim λq h=>h.elim λu h=>k q u h.1 h.2.1 h.2.2
theorem bl6{w y:Sort _}{A C c Y D E:w->y->Prop}{P:Prop}(h:∃ q u,A q u/\C q u/\c q u/\Y q u/\D q u/\E q u)(k:∀ q u,A q u->C q u->c q u->Y q u->D q u->E q u->P):P:=h.elim λq h=>h.elim λu h=>k q u h.1 h.2.1 h.2.2.1 h.2.2.2.1 h.2.2.2.2.1 h.2.2.2.2.2
theorem Q7{u y A:Sort _}{C:u->y->A->Prop}{P:Prop}(h:∃ c q w,C c q w)(k:∀ c q w,C c q w->P):P:=h.elim λc h=>h.elim λq h=>h.elim λw h=>k c q w h
theorem v9{u y A:Sort _}{C D:u->y->A->Prop}{P:Prop}(h:∃ c q w,C c q w/\D c q w)(k:∀ c q w,C c q w->D c q w->P):P:=h.elim λc h=>h.elim λq h=>h.elim λw h=>k c q w h.1 h.2
theorem k9{y A C:Sort _}{D E c:y->A->C->Prop}{P:Prop}(h:∃ q u w,D q u w/\E q u w/\c q u w)(k:∀ q u w,D q u w->E q u w->c q u w->P):P:=h.elim λq h=>h.elim λu h=>h.elim λw h=>k q u w h.1 h.2.1 h.2.2
theorem I6{y A C:Sort _}{D E c Y:y->A->C->Prop}{P:Prop}(h:∃ q u w,D q u w/\E q u w/\c q u w/\Y q u w)(k:∀ q u w,D q u w->E q u w->c q u w->Y q u w->P):P:=h.elim λq h=>h.elim λu h=>h.elim λw h=>k q u w h.1 h.2.1 h.2.2.1 h.2.2.2
theorem x4{y A C:Sort _}{D E c Y F:y->A->C->Prop}{P:Prop}(h:∃ q u w,D q u w/\E q u w/\c q u w/\Y q u w/\F q u w)(k:∀ q u w,D q u w->E q u w->c q u w->Y q u w->F q u w->P):P:=h.elim λq h=>h.elim λu h=>h.elim λw h=>k q u w h.1 h.2.1 h.2.2.1 h.2.2.2.1 h.2.2.2.2
theorem zT{y A C:Sort _}{D E c Y F H:y->A->C->Prop}{P:Prop}(h:∃ q u w,D q u w/\E q u w/\c q u w/\Y q u w/\F q u w/\H q u w)(k:∀ q u w,D q u w->E q u w->c q u w->Y q u w->F q u w->H q u w->P):P:=h.elim λq h=>h.elim λu h=>h.elim λw h=>k q u w h.1 h.2.1 h.2.2.1 h.2.2.2.1 h.2.2.2.2.1 h.2.2.2.2.2
theorem uQ{y A C:Sort _}{D E c Y F H I:y->A->C->Prop}{P:Prop}(h:∃ q u w,D q u w/\E q u w/\c q u w/\Y q u w/\F q u w/\H q u w/\I q u w)(k:∀ q u w,D q u w->E q u w->c q u w->Y q u w->F q u w->H q u w->I q u w->P):P:=h.elim λq h=>h.elim λu h=>h.elim λw h=>k q u w h.1 h.2.1 h.2.2.1 h.2.2.2.1 h.2.2.2.2.1 h.2.2.2.2.2.1 h.2.2.2.2.2.2
theorem v3{u y A C:Sort _}{D E:u->y->A->C->Prop}{P:Prop}(h:∃ c q w T,D c q w T/\E c q w T)(k:∀ c q w T,D c q w T->E c q w T->P):P:=h.elim λc h=>h.elim λq h=>h.elim λw h=>h.elim λT h=>k c q w T h.1 h.2
theorem X5{y A C D:Sort _}{E F c Y:y->A->C->D->Prop}{P:Prop}(h:∃ q u w T,E q u w T/\F q u w T/\c q u w T/\Y q u w T)(k:∀ q u w T,E q u w T->F q u w T->c q u w T->Y q u w T->P):P:=h.elim λq h=>h.elim λu h=>h.elim λw h=>h.elim λT h=>k q u w T h.1 h.2.1 h.2.2.1 h.2.2.2
theorem Im{y A C D:Sort _}{E F c Y H:y->A->C->D->Prop}{P:Prop}(h:∃ q u w T,E q u w T/\F q u w T/\c q u w T/\Y q u w T/\H q u w T)(k:∀ q u w T,E q u w T->F q u w T->c q u w T->Y q u w T->H q u w T->P):P:=h.elim λq h=>h.elim λu h=>h.elim λw h=>h.elim λT h=>k q u w T h.1 h.2.1 h.2.2.1 h.2.2.2.1 h.2.2.2.2
theorem J6{y A C D:Sort _}{E F c Y H I:y->A->C->D->Prop}{P:Prop}(h:∃ q u w T,E q u w T/\F q u w T/\c q u w T/\Y q u w T/\H q u w T/\I q u w T)(k:∀ q u w T,E q u w T->F q u w T->c q u w T->Y q u w T->H q u w T->I q u w T->P):P:=h.elim λq h=>h.elim λu h=>h.elim λw h=>h.elim λT h=>k q u w T h.1 h.2.1 h.2.2.1 h.2.2.2.1 h.2.2.2.2.1 h.2.2.2.2.2
theorem bV1{A C D E F:Sort _}{H I c Y:A->C->D->E->F->Prop}{P:Prop}(h:∃ u y w T q,H u y w T q/\I u y w T q/\c u y w T q/\Y u y w T q)(k:∀ u y w T q,H u y w T q->I u y w T q->c u y w T q->Y u y w T q->P):P:=h.elim λu h=>h.elim λy h=>h.elim λw h=>h.elim λT h=>h.elim λq h=>k u y w T q h.1 h.2.1 h.2.2.1 h.2.2.2
theorem Ln{A C D E F:Sort _}{H I c Y Ja:A->C->D->E->F->Prop}{P:Prop}(h:∃ u y w T q,H u y w T q/\I u y w T q/\c u y w T q/\Y u y w T q/\Ja u y w T q)(k:∀ u y w T q,H u y w T q->I u y w T q->c u y w T q->Y u y w T q->Ja u y w T q->P):P:=h.elim λu h=>h.elim λy h=>h.elim λw h=>h.elim λT h=>h.elim λq h=>k u y w T q h.1 h.2.1 h.2.2.1 h.2.2.2.1 h.2.2.2.2
theorem Yt{A C D E F:Sort _}{H I c Y Ja K:A->C->D->E->F->Prop}{P:Prop}(h:∃ u y w T q,H u y w T q/\I u y w T q/\c u y w T q/\Y u y w T q/\Ja u y w T q/\K u y w T q)(k:∀ u y w T q,H u y w T q->I u y w T q->c u y w T q->Y u y w T q->Ja u y w T q->K u y w T q->P):P:=h.elim λu h=>h.elim λy h=>h.elim λw h=>h.elim λT h=>h.elim λq h=>k u y w T q h.1 h.2.1 h.2.2.1 h.2.2.2.1 h.2.2.2.2.1 h.2.2.2.2.2
theorem i6{c:Type}{a:c}{P:Prop}(e:none=some a):P:=(nomatch e)
theorem D4{c:Type}{a:c}{P:Prop}(e:some a=none):P:=(nomatch e)
theorem d7{c:Type}{a b:c}(e:some a=some b):a=b:=Option.some.inj e
inductive V where
 | none
 | bool (b:Bool)
 | int (i:Int)
 | str (s:Str)
 | tup (l:List V)
 | ref (a:Addr)
variable{J:List (Option V)}{args rh tc:List V}
set_option genInjectivity false
set_option genCtorIdx false
inductive AObj where
 | L (l:List V)
 | di (l:List (Int×V))
 | ds (l:List (Str×V))
 | ex (x:Str)
 | ob (x:Str) (d:Addr)
 | na (l:List (Str×V))
set_option genCtorIdx true
abbrev Hp:=Addr->Option AObj
variable{M M' sv zq τ:Hp}{X:Str->Hp->Prop}{QB:Bool->Hp->Prop}
noncomputable def upd(M:Hp)(a:Addr)(o:AObj):Hp:=λb=>if b=a then some o else M b
theorem d6(M:Hp)(a:Addr)(o:AObj):upd M a o a=some o:=if_pos rfl
theorem e9(M:Hp)(o:AObj)(h:b≠a):upd M a o b=M b:=if_neg h
theorem O1(M:Hp)(a:Addr)(o o':AObj):upd (upd M a o) a o'=upd M a o':=by
 funext b;unfold upd;split<;>rfl
def Sub(M' M:Hp):Prop:=∀ a o,M' a=some o->M a=some o
theorem Sub.refl(M:Hp):Sub M M:=λN N h=>h
theorem Sub.trans(h:Sub a b)(k:Sub b c):Sub a c:=λx o e=>k x o (h x o e)
theorem Sub.upd(h:M a=none):Sub M (upd M a o):=λb U e=>by
 unfold Internal.upd;rw[if_neg (λq=>by rw[q,h] at e;exact i6 e)];exact e
mutual
def Rep(h:Heap):Value->V->Prop
 | x,.none=>x=.none
 | x,.bool b=>x=.bool b
 | x,.int i=>∃ t,x=.int i t
 | x,.str s=>∃ t,x=.str s t
 | x,.tup l=>∃ a c n,x=.ref a/\h.get? a=some {cls:=.type "tuple",data:=.seq c n}/\d9 h c.toList l
 | x,.ref a=>x=.ref a
def d9(h:Heap):List Value->List V->Prop
 | vs,[]=>vs=[]
 | vs,x::l=>∃ v L,vs=v::L/\Rep h v x/\d9 h L l
end
section
variable{h:Heap}{x:Value}
theorem Rep.none:Rep h .none .none:=rfl
theorem Rep.bool(b:Bool):Rep h (.bool b) (.bool b):=rfl
theorem Rep.int(i:Int)(t:Tok):Rep h (.int i t) (.int i):=⟨t,rfl⟩
theorem Rep.str(x:Str)(t:Tok):Rep h (.str x t) (.str x):=⟨t,rfl⟩
theorem Rep.tup(c:h.get? a=some {cls:=.type "tuple",data:=.seq vs n})(r:d9 h vs.toList l):Rep h (.ref a) (.tup l):=⟨a,vs,n,rfl,c,r⟩
theorem Rep.ref(a:Addr):Rep h (.ref a) (.ref a):=rfl
theorem d9.nil:d9 h [] []:=rfl
theorem d9.cons{v:Value}{x:V}{vs:List Value}{l:List V}(r:Rep h v x)(rs:d9 h vs l):d9 h (v::vs) (x::l):=⟨v,vs,rfl,r,rs⟩
theorem Rep.aO(r:Rep h x .none):x=.none:=r
theorem Rep.ofBool(r:Rep h x (.bool b)):x=.bool b:=r
theorem Rep.ofInt(r:Rep h x (.int i)):∃ t,x=.int i t:=r
theorem Rep.ofStr(r:Rep h x (.str i)):∃ t,x=.str i t:=r
theorem Rep.az(r:Rep h x (.tup l)):∃ a c n,x=.ref a/\h.get? a=some {cls:=.type "tuple",data:=.seq c n}/\d9 h c.toList l:=r
theorem Rep.aa(r:Rep h x (.ref a)):x=.ref a:=r
theorem d9.aA(r:d9 h vs []):vs=[]:=r
theorem d9.aj{x:V}(r:d9 h vs (x::l)):∃ v L,vs=v::L/\Rep h v x/\d9 h L l:=r
theorem d9.bD(r:d9 h (v::vs) l):∃ y k,l=y::k/\Rep h v y/\d9 h vs k:=by
 cases l with
 | nil=>cases r.aA
 | cons y k=>refine g6 r.aj λN N e r1 r2=>?_;cases e;exact⟨y,k,rfl,r1,r2⟩
theorem d9.one{x:V}(r:d9 h vs [x]):∃ v,vs=[v]/\Rep h v x:=by
 refine g6 r.aj λv us qa r1 rs=>?_;subst qa
 obtain rfl:=rs.aA;exact⟨v,rfl,r1⟩
theorem d9.two{x:V}(r:d9 h vs [x,y]):∃ v u,vs=[v,u]/\Rep h v x/\Rep h u y:=by
 refine g6 r.aj λv us qa r1 rs=>?_;subst qa
 refine a7 rs.one λu qa c=>?_;subst qa
 exact⟨v,u,rfl,r1,c⟩
end
def l6(h h':Heap):Prop:=∀ b c n,h.get? b=some {cls:=.type "tuple",data:=.seq c n}->h'.get? b=some {cls:=.type "tuple",data:=.seq c n}
theorem l6.trans(x:l6 a b)(y:l6 b c):l6 a c:=λd q n e=>y d q n (x d q n e)
theorem Rep.mono{h:Heap}{x:V}(k:l6 h h'):Rep h v x->Rep h' v x:=
 V.rec (motive_1:=λx=>∀ v,Rep h v x->Rep h' v x) (motive_2:=λl=>∀ c,d9 h c l->d9 h' c l) (λN r=>r) (λN N r=>r) (λN N r=>r) (λN N r=>r)
  (λl u v r=>by refine k9 r.az λa c n e q r=>?_;exact⟨a,c,n,e,k _ _ _ q,u _ r⟩) (λN N r=>r) (λN r=>r)
  (λx l U hl c r=>by refine g6 r.aj λv L e r1 r2=>?_;exact⟨v,L,e,U _ r1,hl _ r2⟩) x v
theorem d9.mono{h:Heap}(k:l6 h h')(r:d9 h vs l):d9 h' vs l:=by
 induction l generalizing vs with
 | nil=>exact r
 | cons x l c=>refine g6 r.aj λv L e r1 r2=>?_;exact⟨v,L,e,r1.mono k,c r2⟩
theorem d9.length{h:Heap}(r:d9 h vs l):vs.length=l.length:=by
 induction l generalizing vs with
 | nil=>rw[r.aA];rfl
 | cons x l c=>refine g6 r.aj λv L Ja r1 r2=>?_;subst Ja;rw[dD,dD,c r2]
theorem d9.get{h:Heap}{l:List V}{i:Nat}{x:V}(r:d9 h vs l)(e:l[i]?=some x):∃ v,vs[i]?=some v/\Rep h v x:=by
 induction l generalizing vs i with
 | nil=>cases e
 | cons y l ih=>
  k_extra"7";clear r;subst qa
  cases i with
  | zero=>replace e:=d7 e;subst e;exact⟨v,rfl,r1⟩
  | succ i=>exact ih (vs:=us) (i:=i) r2 e
theorem d9.append{h:Heap}(r:d9 h vs l)(y:d9 h L k):d9 h (vs++L) (l++k):=by
 induction l generalizing vs with
 | nil=>rw[r.aA];exact y
 | cons x l c=>refine g6 r.aj λv q Ja r1 r2=>?_;subst Ja;exact .cons r1 (c r2)
structure G where
 prog:Program
 w:World
 h₀:Heap
 mg:Str->Option Value
 mb:Str->Option Value
 ns:h₀.Ns mainGlobals mg
 nb:h₀.Ns builtinsNs mb
 nolimit:h₀.NoLimit
 mt:Str->Option Value
noncomputable def G.fn(g:G)(f:Str):Option Value:=match g.mg f with
 | some v=>some v
 | none=>g.mt f
theorem G.bJ{g:G}(h:g.mg f=some v):g.fn f=some v:=by unfold G.fn;rw[h]
def KVs{K:Type}(h:Heap)(kvs:List (K×Value))(L:List (K×V)):Prop:=kvs.map (·.1)=L.map (·.1)/\d9 h (kvs.map (·.2)) (L.map (·.2))
theorem KVs.mono{K:Type}{h:Heap}{kvs:List (K×Value)}{L:List (K×V)}(r:KVs h kvs L)(t:l6 h h'):KVs h' kvs L:=⟨r.1,r.2.mono t⟩
def o6{prog:Program}{w:World}{K:Type}[DecidableEq K](knd:KeyKind prog w K)(h:Heap)(a:Addr)(l:List (K×V)):Prop:=
 ∀ q:Prop,(∀ (c:List (K×Value)) (d:h.DictOf knd a c) (r:KVs h c l) (n:(a==sysModules)=false),q)->q
def s6(g:G)(h:Heap)(a:Addr):AObj->Prop
 | .L l=>∃ c,h.PlainList a c/\d9 h c.toList l
 | .di l=>o6 (intKind g.prog g.w) h a l
 | .ds l=>o6 (strKind g.prog g.w) h a l
 | .ex x=>∃ C Ja c,g.mg x=some (.ref C)/\h.get? a=some Ja/\Ja.cls=.ref C/\Ja.data=.fields c
 | .ob x d=>∃ C,g.mg x=some (.ref C)/\h.get? a=some {cls:=.ref C,dict:=some d,data:=.plain}
 | .na l=>∃ m,h.Ns1 a m/\(∀ n,m n≠none->n∈l.map (·.1))/\∀ p∈l,∃ u,m p.1=some u/\Rep h u p.2
theorem o6.has{K:Type}[DecidableEq K]{knd:KeyKind prog w K}{h:Heap}{l:List (K×V)}(x:o6 knd h a l):∃ L ep,h.get? a=some {cls:=.type "dict",data:=.dict L ep}:=by
 k_extra"bm";rintro u d r n;obtain⟨o,L,ep,q,⟨c1,c2,c3⟩,c,-⟩:=d;exact⟨L,ep,by rw[q];cases o;simp only at c1 c2 c3 c;subst c1 c2 c3 c;rfl⟩
theorem o6.keep{K:Type}[DecidableEq K]{knd:KeyKind prog w K}{h:Heap}{l:List (K×V)}(x:o6 knd h a l)(t:l6 h h')(k:∀ u,h.get? a=some u->h'.get? a=some u):o6 knd h' a l:=by
 k_extra"bm";rintro c d r n;exact v9 d λo L ep y q=>(λz_ A=>A c ⟨o,L,ep,k o y,q⟩ (r.mono t) n)
theorem s6.has{h:Heap}(x:s6 g h a o):∃ ob,h.get? a=some ob:=by
 cases o with
 | L l=>obtain⟨vs,⟨n,e⟩,_⟩:=x;exact⟨_,e⟩
 | di l=>refine j7 (o6.has x) λes ep e=>?_;exact⟨_,e⟩
 | ds l=>refine j7 (o6.has x) λes ep e=>?_;exact⟨_,e⟩
 | ex y=>refine k9 x λC oe vs N e N=>?_;exact⟨_,e⟩
 | ob y d=>refine a7 x λC N e=>?_;exact⟨_,e⟩
 | na l=>obtain⟨m,⟨o,es,ep,ho,-⟩,-⟩:=x;exact⟨o,ho⟩
theorem Ns.kept{h:Heap}(u:h.Ns L m)(k:∀ o,h.get? L=some o->∃ o',h'.get? L=some o'/\o'.data=o.data):h'.Ns L m:=by
 exact k9 u λo c ep w q r=>a7 (k o w) λo' O d=>⟨o',c,ep,O,d.trans q,r⟩
theorem Cell.kept{h:Heap}(u:h.IsCell c v)(k:∀ o,h.get? c=some o->∃ o',h'.get? c=some o'/\o'.data=o.data):h'.IsCell c v:=by
 exact a7 u λo w q=>a7 (k o w) λo' O d=>⟨o',O,d.trans q⟩
set_option genInjectivity false
def KO(p:Prop)(o o':Obj):Prop:=o'=o∨(p/\∃ c,o'={o with slots:=c})
def IsD(o:Obj):Prop:=∃ L ep,o.data=.dict L ep
theorem KO.trans{p:Prop}(x:KO p a b)(y:KO p b c):KO p a c:=by
 rcases x with rfl | ⟨Ma,u,rfl⟩
 ·exact y
 ·rcases y with rfl | ⟨_,q,rfl⟩
  ·exact .inr ⟨Ma,u,rfl⟩
  ·exact .inr ⟨Ma,q,rfl⟩
theorem KO.mono{p q:Prop}(x:KO p a b)(h:p->q):KO q a b:=x.imp id λy=>⟨h y.1,y.2⟩
theorem KO.data{p:Prop}(x:KO p a b):b.data=a.data:=by rcases x with rfl | ⟨_,_,rfl⟩<;>rfl
structure Step(fr own:Addr->Prop)(M M':Hp)(s s':Shared):Prop where
 same:s'.gens=s.gens/\s'.os=s.os
 dom:∀ b o,s.heap.get? b=some o->∃ o',s'.heap.get? b=some o'/\(IsD o->IsD o')
 keep:∀ b o,s.heap.get? b=some o->M b=none->¬ own b->∃ o',s'.heap.get? b=some o'/\KO (fr b) o o'
 ak:l6 s.heap s'.heap
 new:∀ b o,s.heap.get? b=some o->M b=none->M' b=none
def f7:Addr->Prop:=λz_=>False
def inF(A:Around)(b:Addr):Prop:=∃ l e,A.frames=some l/\e∈l/\e.frame=some b
section
theorem Step.exact(x:Step fr own M M' s s')(e:s.heap.get? b=some o)(c:M b=none)(u:¬ own b)(T:¬ fr b):s'.heap.get? b=some o:=by
 refine a7 (x.keep b o e c u) λU q k=>?_
 rcases k with rfl | ⟨p,_⟩
 ·exact q
 ·exact absurd p T
theorem Step.trans(x:Step fr own sv O sw T)(y:Step fr own O Ma T P):Step fr own sv Ma sw P where
 same:=⟨y.same.1.trans x.same.1,y.same.2.trans x.same.2⟩
 dom:=λb o e=>by
  exact a7 (x.dom b o e) λU q d=>a7 (y.dom b U q) λR C w=>⟨R,C,λh=>w (d h)⟩
 keep:=λb o e c u=>by
  exact a7 (x.keep b o e c u) λU q d=>a7 (y.keep b U q (x.new b o e c) u) λR C w=>⟨R,C,d.trans w⟩
 ak:=x.ak.trans y.ak
 new:=λb o e c=>by
  exact a7 (x.dom b o e) λU q N=>y.new b U q (x.new b o e c)
theorem Step.mono(x:Step fr own M M' s s')(h:∀ b,own b->u b):Step fr u M M' s s':=
 ⟨x.same,x.dom,λb o e c w=>x.keep b o e c λq=>w (h b q),x.ak,x.new⟩
theorem Step.grow(k:∀ b o,s.heap.get? b=some o->h'.get? b=some o):Step fr own M M s {s with heap:=h',toks:=tk}:=
 ⟨⟨rfl,rfl⟩,λb o e=>⟨o,k b o e,id⟩,λb o e N N=>⟨o,k b o e,.inl rfl⟩,λb N N e=>k b _ e,λN N N h=>h⟩
theorem Step.toks:Step fr own M M s {s with toks:=tk}:=Step.grow λN N e=>e
theorem Step.refl:Step fr own M M s s:=Step.grow (h':=s.heap) (tk:=s.toks) λN N e=>e
theorem Step.sub(x:Step fr own M sv s s')(h:Sub M' sv):Step fr own M M' s s':=
 ⟨x.same,x.dom,x.keep,x.ak,λb o e c=>by
  cases q:M' b with
  | none=>rfl
  | some U=>rw[<- h b U q,x.new b o e c]⟩
end
structure Sim(g:G)(M:Hp)(h:Heap):Prop where
 stays:g.h₀.StaysIn h
 objs:∀ a o,M a=some o->s6 g h a o/\g.h₀.get? a=none
theorem Sim.sub{g:G}{h:Heap}(x:Sim g M h)(k:Sub M' M):Sim g M' h:=⟨x.stays,λa o e=>x.objs a o (k a o e)⟩
theorem s6.keep{g:G}{h:Heap}(x:s6 g h a o)(t:l6 h h')(k:∀ ob,h.get? a=some ob->h'.get? a=some ob):s6 g h' a o:=by
 cases o with
 | L l=>refine a7 x λvs hp r=>?_;exact⟨vs,hp.at k,r.mono t⟩
 | di l=>exact o6.keep x t k
 | ds l=>exact o6.keep x t k
 | ex y=>refine k9 x λC oe vs h1 e h2=>?_;exact⟨C,oe,vs,h1,k _ e,h2⟩
 | ob y d=>refine a7 x λC h1 e=>?_;exact⟨C,h1,k _ e⟩
 | na l=>refine f5 x λm h1 h3 h2=>?_;exact⟨m,h1.at λo e=>k o e,h3,λp hp=>by refine a7 (h2 p hp) λu a b=>?_;exact⟨u,a,b.mono t⟩⟩
theorem Sim.grow{g:G}{h:Heap}(x:Sim g M h)(k:∀ b o,h.get? b=some o->h'.get? b=some o):Sim g M h':=
 ⟨λb o e=>k b o (x.stays b o e),λa o e=>⟨(x.objs a o e).1.keep (λb N N e=>k b _ e) λc q=>k a c q,(x.objs a o e).2⟩⟩
theorem Sim.put{g:G}{h:Heap}{a:Addr}{o:AObj}(x:Sim g M h)(r:s6 g h a o)(b:g.h₀.get? a=none):Sim g (upd M a o) h:=⟨x.stays,λc p e=>by
 by_cases q:c=a
 ·rw[q,d6] at e;rw[q,<- d7 e];exact⟨r,b⟩
 ·rw[e9 _ _ q] at e;exact x.objs c p e⟩
theorem Sim.no(x:Sim g M h)(O:h.get? c=none):M c=none:=by
 cases q:M c with
 | none=>rfl
 | some o=>exact d4 (x.objs _ o q).1.has λu e=>by rw[O] at e;exact i6 e
theorem Sim.base{g:G}{h:Heap}{c:Addr}(x:Sim g M h)(O:h.get? c=none):g.h₀.get? c=none:=by
 cases q:g.h₀.get? c with
 | none=>rfl
 | some o=>have:=x.stays _ _ q;rw[O] at this;exact i6 this
theorem Step.put{s':Shared}{a:Addr}{o:AObj}(x:Step fr own M M' s s')(h:s.heap.get? a=none):Step fr own M (upd M' a o) s s':=
 ⟨x.same,x.dom,x.keep,x.ak,λb p e c=>(e9 _ _ λq=>by rw[q,h] at e;exact i6 e).trans (x.new b p e c)⟩
def B5(env:Env)(h:Heap)(m:Str->Option Value)(x:Str)(v:Option V):Prop:=
 (env.kindOf x=some .local/\∀ V,v=some V->∃ r,m x=some r/\Rep h r V)∨
 (env.kindOf x=some .cell/\∃ c r,env.cells.lookup x=some c/\h.IsCell c r/\∀ V,v=some V->∃ q,r=some q/\Rep h q V)
def ownOf(env:Env)(b:Addr):Prop:=b=env.locals∨∃ x,env.cells.lookup x=some b
structure Blk where
 sc:Scope
 vars:List Str
 d:Nat
 q:Bool
variable{F:Blk}
structure Loc(env:Env)(vars:List Str)(J:List (Option V))(M:Hp)(h:Heap):Prop where
 len:J.length=vars.length
 ns:∃ m,h.Ns env.locals m/\∀ (i:Nat) (x:Str) (v:Option V),vars[i]?=some x->J[i]?=some v->B5 env h m x v
 free:∀ b,ownOf env b->M b=none
 live:∀ x c,env.cells.lookup x=some c->∃ v,h.IsCell c v
 apart:∀ x y c,env.cells.lookup x=some c->env.cells.lookup y=some c->x=y
 other:∀ x c,env.cells.lookup x=some c->c≠env.locals
def pN(g:G)(M:Hp)(h:Heap)(e:Env):Prop:=
 ∀ c:Prop,(∀ (L:Addr) (K:e.scope.kind≠.module) (T:e.frame=some L) (Y:g.h₀.get? L=none) (P:M L=none) (o:Obj) (q:h.get? L=some o) (d:IsD o),c)->c
def FrL(g:G)(A:Around)(M:Hp)(h:Heap):Prop:=
 ∀ c:Prop,(∀ (l:List Env) (Ma:A.frames=some l) (all:∀ e∈l,pN g M h e),c)->c
def Frs(g:G)(A:Around)(env:Env)(M:Hp)(h:Heap):Prop:=
 ∀ q:Prop,(∀ (c:Env) (l:List Env) (Ma:A.frames=some (c::l)) (T:c.frame=env.frame) (all:∀ e∈c::l,pN g M h e),q)->q
theorem pN.step{g:G}{M M':Hp}{s s':Shared}{fr own:Addr->Prop}{e:Env}(x:pN g M s.heap e)(y:Step fr own M M' s s'):pN g M' s'.heap e:=by
 k_extra"bm";rintro L K T Y P o c d;exact a7 (y.dom L o c) λU O q=>(λz_ u=>u L K T Y (y.new L o c P) U O (q d))
theorem Frs.step{g:G}{A:Around}{env:Env}{M M':Hp}{s s':Shared}{fr own:Addr->Prop}(x:Frs g A env M s.heap)(y:Step fr own M M' s s'):Frs g A env M' s'.heap:=by
 k_extra"bm";k_extra"a3";exact(λz_ q=>q e0 l ha hf (λe c=>(all e c).step y))
theorem Frs.l{g:G}{h:Heap}(x:Frs g A env M h):FrL g A M h:=by
 k_extra"bm";k_extra"a3";exact(λz_ c=>c _ ha all)
theorem Frs.not{g:G}{h:Heap}(x:Frs g A env M h)(Y:h.get? b=none∨M b≠none):¬ inF A b:=λq=>by
 refine g6 q λl e hl y T=>x _ ?_
 clear x;rintro u C Ma-all;rw[hl] at Ma;replace Ma:=d7 Ma;subst Ma;refine(all e y) _ ?_;rintro L-c-P o w -;rw[T] at c;replace c:=d7 c;subst c;rcases Y with Y | Y
 ·rw[Y] at w;exact i6 w
 ·exact Y P
structure Inv(g:G)(F:Blk)(A:Around)(env:Env)(J:List (Option V))(M:Hp)(s:Shared):Prop where
 scope:env.scope=F.sc
 fn:env.scope.kind=.function
 glob:env.globals=mainGlobals
 bk:env.builtins=builtinsNs
 room:A.depth+F.d<recursionLimit
 units:A.units+8*F.d<cLine
 quiet:F.q=true->A.handled=none
 sim:Sim g M s.heap
 loc:Loc env F.vars J M s.heap
 base:∀ b,ownOf env b->g.h₀.get? b=none
 nd:F.vars.Nodup
 frs:Frs g A env M s.heap
theorem B5.keep{h:Heap}{x:Str}(y:B5 env h m x v)(t:l6 h h')(k:∀ y c,env.cells.lookup y=some c->∀ o,h.get? c=some o->∃ o',h'.get? c=some o'/\o'.data=o.data):B5 env h' m x v:=by
 k_extra"cM"
 ·exact .inl ⟨e,λV u=>by refine a7 (y V u) λr w C=>?_;exact⟨r,w,C.mono t⟩⟩
 ·exact .inr ⟨e,c,r,hc,Cell.kept hcell λo q=>k x c hc o q,λV u=>by refine a7 (y V u) λr w C=>?_;exact⟨r,w,C.mono t⟩⟩
theorem Loc.keep(l:Loc env u J M s.heap)(x:Step fr f7 M M' s s'):Loc env u J M' s'.heap:=by
 refine a7 l.ns λm H w=>?_
 have k:∀ b,ownOf env b->∀ o,s.heap.get? b=some o->∃ U,s'.heap.get? b=some U/\U.data=o.data:=λb Y o e=>by
  exact a7 (x.keep _ _ e (l.free _ Y) id) λU I q=>⟨U,I,q.data⟩
 refine⟨l.len,⟨m,Ns.kept H (k _ (.inl rfl)),λi y v Ja C=>(w i y v Ja C).keep x.ak λy c O=>k c (.inr ⟨y,O⟩)⟩,λb Y=>?_,λy c O=>d4 (l.live y c O) λv w=>⟨v,Cell.kept w (k c (.inr ⟨y,O⟩))⟩,l.apart,l.other⟩
 ·rcases Y with rfl | ⟨y,O⟩
  ·exact v9 H λo N N D N=>x.new _ o D (l.free _ (.inl rfl))
  ·exact i5 (l.live y b O) λN o D N=>x.new _ o D (l.free _ (.inr ⟨y,O⟩))
theorem Inv.keep{g:G}(I:Inv g F A env J M s)(x:Step (inF A) f7 M M' s s')(y:Sim g M' s'.heap):Inv g F A env J M' s':=
 ⟨I.scope,I.fn,I.glob,I.bk,I.room,I.units,I.quiet,y,I.loc.keep x,I.base,I.nd,I.frs.step x⟩
def L1(g:G)(e:Value)(x:Str)(c:Heap)(M:Hp)(h:Heap)(vs:Array Value)(a:Addr):Prop:=
 ∀ q:Prop,(∀ (C:Addr) (Ja:Obj) (Ma:Value) (w:e=.ref a) (n:c.get? a=none) (b:g.h₀.get? a=none) (P:M a=none) (y:h.get? a=some Ja) (O:Ja.cls=.ref C) (U:g.mg x=some (.ref C))
   (u:Ja.data=.fields vs) (Y:vs[0]?=some Ma),q)->q
def D1(g:G)(e:Value)(x:Str)(c:Heap)(M:Hp)(h:Heap)(I:Value):Prop:=
 ∀ q:Prop,(∀ (a:Addr) (C:Array Value) (y:L1 g e x c M h C a) (T:Addr) (u:Obj) (w:Array Value) (Z:C[1]?=some (.ref T)) (K:c.get? T=none) (bT:g.h₀.get? T=none) (L:M T=none) (ne:T≠a)
   (D:h.get? T=some u) (H:u.data=.fields w) (Ja:w[3]?=some I),q)->q
inductive Fly(g:G)(A:Around)(e:Value)(x:Str)(qz:Heap)(M:Hp)(h:Heap):Prop
 | made (a:Addr) (vs:Array Value) (y:L1 g e x qz M h vs a) (h1:vs[1]?=some .none):Fly g A e x qz M h
 | on (fl:Value) (y:D1 g e x qz M h fl) (hfl:fl=.none∨∃ l v L,A.frames=some (v::l)/\v.frame=some L/\fl=rawInt L):Fly g A e x qz M h
theorem Step.nix(x:Step fr own M M' s s')(h:s'.heap.get? b=none):s.heap.get? b=none:=by
 cases q:s.heap.get? b with
 | none=>rfl
 | some o=>refine a7 (x.dom b o q) λU e N=>?_;rw[h] at e;exact i6 e
section
variable{g:G}{e:Value}{x:Str}{h:Heap}
theorem L1.step{vs:Array Value}{a:Addr}(y:Step fr own M sv s sw)(f:L1 g e x sw.heap M' h vs a):L1 g e x s.heap M' h vs a:=by
 refine f _ ?_;clear f;rintro C Ja Ma q n b P u O U c Y;exact(λz_ w=>w C Ja Ma q (y.nix n) b P u O U c Y)
theorem Fly.sig(f:Fly g A e x q M h)(k:∀ b,q.get? b=none->M b=none->M' b=none):Fly g A e x q M' h:=by
 have c:∀ {u:Array Value} {a:Addr},L1 g e x q M h u a->L1 g e x q M' h u a:=fun{u a} z=>by
  refine z _ ?_;clear z;rintro C oe Ma R n b P S O U L Y;exact(λz_ y=>y C oe Ma R n b (k a n P) S O U L Y)
 cases f with
 | made a u z Z=>exact .made a u (c z) Z
 | on I z w=>
  refine z _ ?_;clear z;rintro a u z T oT ts Z H bT sT ne D Ja K;exact .on I (λz_ y=>y a u (c z) T oT ts Z H bT (k T H sT) ne D Ja K) w
theorem Fly.sub(f:Fly g A e x c M h)(k:Sub M' M):Fly g A e x c M' h:=f.sig λb N Y=>by
 cases q:M' b with
 | none=>rfl
 | some o=>rw[<- k b o q,Y]
theorem D1.step{I:Value}(y:Step fr own M sv s sw)(f:D1 g e x sw.heap M' h I):D1 g e x s.heap M' h I:=by
 refine f _ ?_;clear f;rintro a K z T C Ja Z w bT H ne D c q;exact(λz_ u=>u a K (z.step y) T C Ja Z (y.nix w) bT H ne D c q)
theorem Fly.step(f:Fly g A e x sw.heap M' h)(y:Step fr own M sv s sw):Fly g A e x s.heap M' h:=by
 cases f with
 | made a q z Z=>exact .made a q (z.step y) Z
 | on I z c=>exact .on I (z.step y) c
end
def l8(g:G)(F:Blk)(A:Around)(env:Env)(J:List (Option V))(M:Hp)(s:Shared)(Q:V->Hp->Prop)(v:Value)(s':Shared):Prop:=
 ∀ c:Prop,(∀ (V:V) (M':Hp) (r:Rep s'.heap v V) (i:Inv g F A env J M' s') (y:Step (inF A) f7 M M' s s') (q:Q V M'),c)->c
def H8(g:G)(F:Blk)(A:Around)(env:Env)(J:List (Option V))(M:Hp)(s:Shared)(Q:Bool->Hp->Prop)(b:Bool)(s':Shared):Prop:=
 ∀ c:Prop,(∀ (M':Hp) (i:Inv g F A env J M' s') (y:Step (inF A) f7 M M' s s') (q:Q b M'),c)->c
def j6(g:G)(F:Blk)(A:Around)(env:Env)(J:List (Option V))(M:Hp)(s:Shared)(X:Str->Hp->Prop)(e:Value)(s':Shared):Prop:=
 ∀ c:Prop,(∀ (x:Str) (M':Hp) (f:Fly g A e x s.heap M' s'.heap) (i:Inv g F A env J M' s') (y:Step (inF A) f7 M M' s s') (q:X x M'),c)->c
theorem j6.no{g F A env J M s v s'}{P:Prop}(p:j6 g F A env J M s (λN N=>False) v s'):P:=p _ λN N N N N q=>q.elim
theorem l8.step{g F A env J M sv s sw Q v s'}(x:Step (inF A) f7 M sv s sw)(p:l8 g F A env J sv sw Q v s'):l8 g F A env J M s Q v s':=
 by refine p _ ?_;clear p;rintro V M' r i y q;exact(λz_ c=>c V M' r i (x.trans y) q)
theorem H8.step{g F A env J M sv s sw Q v s'}(x:Step (inF A) f7 M sv s sw)(p:H8 g F A env J sv sw Q v s'):H8 g F A env J M s Q v s':=
 by refine p _ ?_;clear p;rintro M' i y q;exact(λz_ c=>c M' i (x.trans y) q)
theorem j6.step{g F A env J M sv s sw X v s'}(x:Step (inF A) f7 M sv s sw)(p:j6 g F A env J sv sw X v s'):j6 g F A env J M s X v s':=
 by refine p _ ?_;clear p;rintro V M' r i y q;exact(λz_ c=>c V M' (r.step x) i (x.trans y) q)
section
variable{g:G}
theorem pgo{Q:V->Hp->Prop}(h:wpAny (model g.prog g.w) A m (l8 g F A env J M s Q) (j6 g F A env J M s X) s)
  (k:∀ v sw V sv,Rep sw.heap v V->Inv g F A env J sv sw->Step (inF A) f7 M sv s sw->Q V sv->P v sw) (kx:∀ e s',j6 g F A env J M s X e s'->E e s'):wpAny (model g.prog g.w) A m P E s:=
 oO h (λv sw p=>p _ (k v sw)) kx
theorem B8{Q:Bool->Hp->Prop}(h:wpAny (model g.prog g.w) A m (H8 g F A env J M s Q) (j6 g F A env J M s X) s)
  (k:∀ v sw sv,Inv g F A env J sv sw->Step (inF A) f7 M sv s sw->Q v sv->P v sw) (kx:∀ e s',j6 g F A env J M s X e s'->E e s'):wpAny (model g.prog g.w) A m P E s:=
 oO h (λv sw p=>p _ (k v sw)) kx
end
def Ev(g:G)(F:Blk)(e:Expr)(J:List (Option V))(M:Hp)(Q:V->Hp->Prop)(X:Str->Hp->Prop):Prop:=
 ∀ A env s,Inv g F A env J M s->wpAny (model g.prog g.w) A (eval e env) (l8 g F A env J M s Q) (j6 g F A env J M s X) s
def Tst(g:G)(F:Blk)(e:Expr)(J:List (Option V))(M:Hp)(Q:Bool->Hp->Prop)(X:Str->Hp->Prop):Prop:=
 ∀ A env s,Inv g F A env J M s->wpAny (model g.prog g.w) A (isTrue e env (eval e env)) (H8 g F A env J M s Q) (j6 g F A env J M s X) s
section
variable{g:G}{Q:V->Hp->Prop}
theorem Ev.mono{e:Expr}(h:Ev g F e J M Q X)(k:∀ v M,Q v M->c v M):Ev g F e J M c X:=(λA env s I=>
 pgo (h A env s I) (λN N V M' r i y q=>(λN k_=>k_ V M' r i y (k _ _ q))) λN N p=>p)
theorem Le(h:Q (.int i) M):Ev g F (.Constant (.int i) k pos) J M Q X:=(λA env s I=>
 wpAny_Constant_int (λz_ c=>c _ M (.int _ _) (I.keep Step.toks I.sim) Step.toks h))
theorem Wb(h:Q (.str i) M):Ev g F (.Constant (.str i) k pos) J M Q X:=(λA env s I=>
 wpAny_Constant_str (λz_ c=>c _ M (.str _ _) (I.keep Step.toks I.sim) Step.toks h))
theorem aY9(h:Q .none M):Ev g F (.Constant .none k pos) J M Q X:=(λA env s I=>
 wpAny_Constant_none (λz_ c=>c _ M .none I Step.refl h))
theorem Nh(h:Q (.bool b) M):Ev g F (.Constant (.bool b) k pos) J M Q X:=(λA env s I=>
 wpAny_Constant_bool (λz_ c=>c _ M (.bool _) I Step.refl h))
end
def pC(g:G)(F:Blk)(t:Value->Value->Sem Value)(a b:V)(J:List (Option V))(M:Hp)(Q:V->Hp->Prop)(X:Str->Hp->Prop):Prop:=
 ∀ A R s x y,Inv g F A R J M s->Rep s.heap x a->Rep s.heap y b->wpAny (model g.prog g.w) A (t x y) (l8 g F A R J M s Q) (j6 g F A R J M s X) s
def pD(g:G)(F:Blk)(t:Value->Sem Value)(a:V)(J:List (Option V))(M:Hp)(Q:V->Hp->Prop)(X:Str->Hp->Prop):Prop:=
 ∀ A R s x,Inv g F A R J M s->Rep s.heap x a->wpAny (model g.prog g.w) A (t x) (l8 g F A R J M s Q) (j6 g F A R J M s X) s
def Tru(g:G)(F:Blk)(a:V)(J:List (Option V))(M:Hp)(Q:Bool->Hp->Prop)(X:Str->Hp->Prop):Prop:=
 ∀ A R s x,Inv g F A R J M s->Rep s.heap x a->wpAny (model g.prog g.w) A (truthy x) (H8 g F A R J M s Q) (j6 g F A R J M s X) s
def yN(g:G)(F:Blk)(A:Around)(env:Env)(J:List (Option V))(M:Hp)(s:Shared)(Q:List V->Hp->Prop)(vs:List Value)(s':Shared):Prop:=
 ∀ c:Prop,(∀ (w:List V) (u:Hp) (r:d9 s'.heap vs w) (i:Inv g F A env J u s') (y:Step (inF A) f7 M u s s') (q:Q w u),c)->c
theorem Q9{g:G}{Q:List V->Hp->Prop}(h:wpAny (model g.prog g.w) A m (yN g F A env J M s Q) (j6 g F A env J M s X) s)
  (k:∀ v sw V c,d9 sw.heap v V->Inv g F A env J c sw->Step (inF A) f7 M c s sw->Q V c->P v sw) (kx:∀ e s',j6 g F A env J M s X e s'->E e s'):wpAny (model g.prog g.w) A m P E s:=
 oO h (λv sw p=>p _ (k v sw)) kx
def Evs(g:G)(F:Blk)(L:List Expr)(J:List (Option V))(M:Hp)(Q:List V->Hp->Prop)(X:Str->Hp->Prop):Prop:=
 ∀ A R s pos,Inv g F A R J M s->wpAny (model g.prog g.w) A (spliced (backTo pos (pg L R)))
  (yN g F A R J M s Q) (j6 g F A R J M s X) s/\(backTo pos (pg L R)).any (·.1)=false
def Itm(g:G)(F:Blk)(a b:V)(J:List (Option V))(M:Hp)(Q:V->Hp->Prop)(X:Str->Hp->Prop):Prop:=
 ∀ A R s x y,Inv g F A R J M s->Rep s.heap x a->Rep s.heap y b->∃ T id,s.TypeIs x T/\typeLookup (.type T) "__getitem__" = pure (some (.builtin id))/\
  wpAny (model g.prog g.w) A (getItem x y) (l8 g F A R J M s Q) (j6 g F A R J M s X) s
section
variable{g:G}{Q:V->Hp->Prop}
theorem B2{A env s}{C:Nat}(I:Inv g F A env J M s)(h:Q (.int i) M):l8 g F A env J M s Q (.int i tk) {s with toks:=C}:=
 (λz_ c=>c _ M (.int _ _) (I.keep Step.toks I.sim) Step.toks h)
theorem n6{A env s}(I:Inv g F A env J M s)(h:Q (.bool b) M):l8 g F A env J M s Q (.bool b) s:=
 (λz_ c=>c _ M (.bool _) I Step.refl h)
theorem n5{A env s}{C:Nat}(I:Inv g F A env J M s)(h:Q (.bool b) M):l8 g F A env J M s Q (.bool b) {s with toks:=C}:=
 (λz_ c=>c _ M (.bool _) (I.keep Step.toks I.sim) Step.toks h)
theorem C5{A env s v V}(I:Inv g F A env J M s)(r:Rep s.heap v V)(h:Q V M):l8 g F A env J M s Q v s:=(λz_ c=>c V M r I Step.refl h)
theorem Di{i:Nat}{v:V}(U:F.vars[i]?=some x)(w:J[i]?=some (some v))(h:Q v M)(q:(x==("__debug__" : Str))=false) :
  Ev g F (.Name x pos) J M Q X:=(λA R s I=>by
 refine a7 I.loc.ns λm y u=>wpAny_Name ?_ q
 rcases u i x _ U w with ⟨K,e⟩ | ⟨K,c,r,O,D,e⟩
 ·exact a7 (e v rfl) λr E C=>wpAny_loadName_local I.fn K y E (C5 I C h)
 ·refine a7 (e v rfl) λH Ja C=>?_;rw[Ja] at D e
  exact wpAny_loadName_cell I.fn K O D (C5 I C h))
theorem Cd(h:Ev g F l J M (λa c=>Ev g F r J c (λb O=>pC g F (binaryOp op) a b J O Q X) X) X) :
  Ev g F (.BinOp l op r pos) J M Q X:=(λA R s I=>
 wpAny_BinOp (pgo (h A R s I) (λa w y c L Z E q=>pgo (q A R w Z) (λb T D O x U C u=>oO (u A R T a b U (L.mono C.ak) x) (λN N p=>(p.step C).step E) λN N p=>(p.step C).step E) λN N p=>p.step E) λN N p=>p))
theorem ZS(h:Ev g F l J M (λa c=>Ev g F r J c (λb O=>pC g F (compareOp op) a b J O Q X) X) X)(x:behindInMarks op r=false) :
  Ev g F (.Compare l [op] [r] pos) J M Q X:=(λA R s I=>
 wpAny_Compare1 (pgo (h A R s I) (λa w D c L Z E q=>pgo (q A R w Z) (λb T H O y U C u=>oO (u A R T a b U (L.mono C.ak) y) (λN N p=>(p.step C).step E) λN N p=>(p.step C).step E) λN N p=>p.step E) λN N p=>p) x)
theorem Ey(h:Ev g F x J M (λa c=>pD g F (unaryOp op) a J c Q X) X):Ev g F (.UnaryOp op x pos) J M Q X:=(λA R s I=>
 wpAny_UnaryOp (pgo (h A R s I) (λa u w c L Z E q=>oO (q A R u a Z L) (λN N p=>p.step E) λN N p=>p.step E) λN N p=>p))
theorem B1(k:∀ A env s u v,Inv g F A env J M s->wpAny (model g.prog g.w) A (t (.int a u) (.int b v)) (l8 g F A env J M s Q) (j6 g F A env J M s X) s):pC g F t (.int a) (.int b) J M Q X:=(λA env s x y I Z c=>by
 refine d4 Z.ofInt λu Ja=>?_;subst Ja;refine d4 c.ofInt λv Ja=>?_;subst Ja;exact k A env s u v I)
theorem bc3(h:Q (.int (a+b)) M):pC g F (binaryOp .Add) (.int a) (.int b) J M Q X:=B1 λA R s N N I=>P.add_int (B2 I h)
theorem Qw(h:Q (.int (a-b)) M):pC g F (binaryOp .Sub) (.int a) (.int b) J M Q X:=B1 λA R s N N I=>P.sub_int (B2 I h)
theorem Gx(h:Q (.int (a*b)) M)(c:IntMulOk a b):pC g F (binaryOp .Mult) (.int a) (.int b) J M Q X:=B1 λA R s N N I=>P.mul_int (B2 I h) c
theorem Xz(Y:b≠0)(h:Q (.int (a.fmod b)) M):pC g F (binaryOp .Mod) (.int a) (.int b) J M Q X:=B1 λA R s N N I=>PyProof.Rows.mod_int' Y (B2 I h)
theorem RW(Y:b≠0)(hl:b.natAbs.log2<9000)(h:Q (.int (a.fdiv b)) M):pC g F (binaryOp .FloorDiv) (.int a) (.int b) J M Q X:=B1 λA R s N N I=>PyProof.Rows.floordiv_int Y (B2 I h) (Or.inl (PyProof.noPylong_of_log2 hl))
theorem Ww(Y:0<=b)(hl:(Builtin.Int.intBits a:Int)*b<=2 ^ 27)(h:Q (.int (a ^ b.toNat)) M):pC g F (binaryOp .Pow) (.int a) (.int b) J M Q X:=B1 λA R s N N I=>PyProof.Rows.pow_int Y hl (B2 I h)
theorem QF(h:Q (.bool (decide (a<b))) M):pC g F (compareOp .Lt) (.int a) (.int b) J M Q X:=B1 λA R s N N I=>P.lt_int (n6 I h)
theorem WQ(h:Q (.bool (decide (a<=b))) M):pC g F (compareOp .LtE) (.int a) (.int b) J M Q X:=B1 λA R s N N I=>P.le_int (n6 I h)
theorem ca4(h:Q (.bool (decide (a > b))) M):pC g F (compareOp .Gt) (.int a) (.int b) J M Q X:=B1 λA R s N N I=>P.gt_int (n6 I h)
theorem bE0(h:Q (.bool (decide (a≥b))) M):pC g F (compareOp .GtE) (.int a) (.int b) J M Q X:=B1 λA R s N N I=>P.ge_int (n6 I h)
theorem Ou(h:Q (.bool (a==b)) M):pC g F (compareOp .Eq) (.int a) (.int b) J M Q X:=B1 λA R s N N I=>P.eq_int (n6 I h)
theorem bi3(h:Q (.bool (a != b)) M):pC g F (compareOp .NotEq) (.int a) (.int b) J M Q X:=B1 λA R s N N I=>P.ne_int (n6 I h)
theorem ch4(h:Q (.int (-a)) M):pD g F (unaryOp .USub) (.int a) J M Q X:=(λA R s x I rx=>by
 refine d4 rx.ofInt λz_ qa=>?_;subst qa;exact P.neg_int (B2 I h))
theorem Hb(h:QB b M):Tru g F (.bool b) J M QB X:=(λA R s x I Z=>by
 obtain rfl:=Z.ofBool;exact wpAny_truthy_bool (λz_ c=>c M I Step.refl h))
theorem Tw(h:QB (a != 0) M):Tru g F (.int a) J M QB X:=(λA R s x I rx=>by
 refine d4 rx.ofInt λz_ qa=>?_;subst qa;exact P.truthy_int (λz_ c=>c M I Step.refl h))
theorem bp1(h:Tru g F a J M (λb M'=>Q (.bool (!b)) M') X):pD g F (unaryOp .Not) a J M Q X:=(λA R s x I Z=>
 not_value (B8 (h A R s x I Z) (λb w M' c D q=>(λN u=>u _ M' (.bool _) c D q)) λN N p=>p))
theorem Ev.tst_of(h:Ev g F e J M (λv q=>Tru g F v J q QB X) X)(x:∀ env c,isTrue e env c=(do let v <- c;standAt e.pos;holding [v] (truthy v))):Tst g F e J M QB X:=(λA env s I=>
 wpAny_isTrue_value (pgo (h A env s I) (λa w y q L Z E u=>oO (u A env w a Z L) (λN N p=>p.step E) λN N p=>p.step E) λN N p=>p) (x env _))
theorem Gg(h:Ev g F l J M (λa q=>Ev g F r J q (λb O=>pC g F (compareOp op) a b J O (λv Ma=>Tru g F v J Ma QB X) X) X) X)(D:behindInMarks op r=false) :
  Tst g F (.Compare l [op] [r] pos) J M QB X:=(λA R s I=>
 wpAny_isTrue_Compare1 (pgo (h A R s I) (λa y Ja q L Z E u=>pgo (u A R y Z) (λb T Vb O H U C w=>pgo (w A R T a b U (L.mono C.ak) H) (λc P Vc Ma K Y S x=>
   oO (x A R P c Y K) (λN N p=>((p.step S).step C).step E) λN N p=>((p.step S).step C).step E) λN N p=>(p.step C).step E) λN N p=>p.step E) λN N p=>p) D)
theorem bo4(h:Tst g F x J M (λb q=>QB (!b) q) X):Tst g F (.UnaryOp .Not x pos) J M QB X:=(λA R s I=>
 wpAny_isTrue_Not (B8 (h A R s I) (λN N a b c d=>(λN u=>u a b c d)) λN N p=>p))
def H0(g:G)(F:Blk)(op:BoolOp)(L:List Expr)(J:List (Option V))(M:Hp)(Q:Bool->Hp->Prop)(X:Str->Hp->Prop):Prop:=
 ∀ A R s,Inv g F A R J M s->wpAny (model g.prog g.w) A (allTrue op L R) (H8 g F A R J M s Q) (j6 g F A R J M s X) s
theorem Bx(h:H0 g F op L J M QB X):Tst g F (.BoolOp op L pos) J M QB X:=(λA R s I=>wpAny_isTrue_BoolOp (h A R s I))
theorem SX(h:QB true M):H0 g F .And [] J M QB X:=(λA R s I=>wpAny_allTrue_And_nil (λz_ c=>c M I Step.refl h))
theorem bM2(h:QB false M):H0 g F .Or [] J M QB X:=(λA R s I=>wpAny_allTrue_Or_nil (λz_ c=>c M I Step.refl h))
theorem Ga(h:Tst g F e J M (λb c=>(b=true->H0 g F .And L J c QB X)/\(b=false->QB false c)) X):H0 g F .And (e::L) J M QB X:=(λA R s I=>
 wpAny_allTrue_And_cons (B8 (h A R s I) (λb u c Z E q=>by
  cases b with
  | true=>exact oO ((q.1 rfl) A R u Z) (λN N p=>p.step E) λN N p=>p.step E
  | false=>exact(λN w=>w c Z E (q.2 rfl))) λN N p=>p))
theorem Hh(h:Tst g F e J M (λb c=>(b=true->QB true c)/\(b=false->H0 g F .Or L J c QB X)) X):H0 g F .Or (e::L) J M QB X:=(λA R s I=>
 wpAny_allTrue_Or_cons (B8 (h A R s I) (λb u c Z E q=>by
  cases b with
  | false=>exact oO ((q.2 rfl) A R u Z) (λN N p=>p.step E) λN N p=>p.step E
  | true=>exact(λN w=>w c Z E (q.1 rfl))) λN N p=>p))
theorem sW(h:c [] M):Evs g F [] J M c X:=(λA R s pos I=>⟨wpAny_items_nil (λz_ q=>q [] M .nil I Step.refl h),rfl⟩)
theorem W0(h:Ev g F e J M (λv c=>Evs g F L J c (λvs O=>x (v::vs) O) X) X)
  (Ma:∀ env pos,(backTo pos (pg L env)).any (·.1)=false)
  (y:∀ env,pg (e::L) env=(false,eval e env)::pg L env):Evs g F (e::L) J M x X:=(λA env s pos I=>⟨
 wpAny_items_cons (pgo (h A env s I) (λv w V c r Z E u=>Q9 (u A env w pos Z).1 (λvs T D O Ja U C q=>
  (λN H=>H (V::D) O (.cons (r.mono C.ak) Ja) U (E.trans C) q)) λN N p=>p.step E) λN N p=>p) (y env),by rw[y];exact Ma env pos⟩)
theorem Sim.push(x:Sim g M h):Sim g M (h.push o):=x.grow λb U e=>bZ o e
theorem Step.push{o:Obj}:Step fr own M M s {s with heap:=s.heap.push o}:=Step.grow (tk:=s.toks) λb U e=>bZ o e
theorem I9{h:Heap}(c:h.objs.size<=n):h.get? n=none:=by
 cases q:h.get? n with
 | none=>rfl
 | some o=>exact absurd (dJ q) (iU.mpr c)
theorem u5(h:Heap):h.get? h.objs.size=none:=I9 (cO _)
theorem Sim.fresh(x:Sim g M h):M h.objs.size=none:=x.no (u5 _)
structure Ext(s s':Shared):Prop where
 heap:∀ b o,s.heap.get? b=some o->s'.heap.get? b=some o
 gens:s'.gens=s.gens
 os:s'.os=s.os
theorem Ext.trans(x:Ext a b)(y:Ext b c):Ext a c:=⟨λb o e=>y.heap b o (x.heap b o e),y.gens.trans x.gens,y.os.trans x.os⟩
theorem Ext.step{fr own:Addr->Prop}{M:Hp}{s s':Shared}(x:Ext s s'):Step fr own M M s s':=
 ⟨⟨x.gens,x.os⟩,λb o e=>⟨o,x.heap b o e,id⟩,λb o e N N=>⟨o,x.heap b o e,.inl rfl⟩,λb N N e=>x.heap b _ e,λN N N h=>h⟩
theorem Y6{o:Obj}:Ext s {s with heap:=s.heap.push o}:=⟨λb o e=>bZ _ e,rfl,rfl⟩
theorem Dv{A env}{s':Shared}{c:Addr}{o:AObj}(I:Inv g F A env J M s)(x:Ext s s')(O:s.heap.get? c=none)(r:s6 g s'.heap c o):Inv g F A env J (upd M c o) s'/\Step (inF A) f7 M (upd M c o) s s':=
 have D:=(x.step (fr:=inF A) (own:=f7) (M:=M)).put O
 ⟨I.keep D ((I.sim.grow x.heap).put r (I.sim.base O)),D⟩
theorem X8{g F A env J M}(I:Inv g F A env J M s)(x:Ext s s')(O:s.heap.get? c=none)(r:s6 g s'.heap c o)(h:∀ a,M a=none->Q (.ref a) (upd M a o)):l8 g F A env J M s Q (.ref c) s':=
 have p:=Dv I x O r
 λz_ q=>q _ _ (.ref _) p.1 p.2 (h _ (I.sim.no O))
theorem F3{g F A env J M}(I:Inv g F A env J M s)(x:Ext s s')(O:s.heap.get? c=none)
  (q:s'.heap.get? c=some {cls:=.type "list",data:=.seq vs n}) (r:d9 s'.heap vs.toList l) (h:∀ a,M a=none->Q (.ref a) (upd M a (.L l))):l8 g F A env J M s Q (.ref c) s':=X8 (o:=.L l) I x O ⟨vs,⟨n,q⟩,r⟩ h
theorem uJ{A env s}(I:Inv g F A env J M s)(r:d9 s.heap vs l)(h:∀ a,M a=none->Q (.ref a) (upd M a (.L l))) :
  l8 g F A env J M s Q (.ref s.heap.objs.size) {s with heap:=s.heap.push {cls:=.type "list",data:=.seq vs.toArray}}:=
 F3 I Y6 (u5 _) (cH _ rfl) (r.mono (Step.push (fr:=f7) (own:=f7) (M:=M)).ak) h
theorem rM{A env s}(I:Inv g F A env J M s)(r:d9 s.heap vs l)(h:Q (.tup l) M) :
  l8 g F A env J M s Q (.ref s.heap.objs.size) {s with heap:=s.heap.push {cls:=.type "tuple",data:=.seq vs.toArray}}:=by
 exact(λz_ c=>c _ M (.tup (vs:=vs.toArray) (n:=0) (cH _ rfl) (r.mono (Step.push (fr:=inF A) (own:=f7) (M:=M)).ak)) (I.keep Step.push I.sim.push) Step.push h)
theorem Ad(h:Evs g F L J M (λvs c=>vs.length<=sizeLine/\Q (.tup vs) c) X):Ev g F (.Tuple L k pos) J M Q X:=(λA R s I=>
 wpAny_Tuple (Q9 (h A R s pos I).1 (λvs w x c u Z E q=>⟨by rw[u.length];exact q.1,(rM Z u q.2).step E⟩) λN N p=>p))
theorem xg(h:Evs g F L J M (λvs c=>vs.length<=sizeLine/\∀ a,c a=none->Q (.ref a) (upd c a (.L vs))) X):Ev g F (.List L pos) J M Q X:=(λA R s I=>
 wpAny_List (Q9 (h A R s pos I).1 (λvs w x c u Z E q=>⟨by rw[u.length];exact q.1,(uJ Z u q.2).step E⟩) λN N p=>p))
theorem uK(h:Ev g F q J M (λa u=>Ev g F c J u (λb O=>Itm g F a b J O Q X) X) X)
  (P:∀ o i,subscripted c false o i=operate [o,i] (getItem o i)):Ev g F (.Subscript q c pos) J M Q X:=(λA R s I=>
 PyProof.Rows.Subscript_ (pgo (h A R s I) (λa y K u L Z E w=>pgo (w A R y Z) (λb H Ma O Ja U C x=>by
   refine g6 (x A R H a b U (L.mono C.ak) Ja) λT id D hl S=>?_
   exact mZ D hl (oO S (λN N p=>(p.step C).step E) λN N p=>(p.step C).step E) (P a b)) λN N p=>p.step E) λN N p=>p))
theorem xU(q : -(2 ^ 63)<=k)(c:k<2 ^ 63)(D:seqIndex? k l.length=some j)(U:l[j]?=some x)(h:Q x M):Itm g F (.tup l) (.int k) J M Q X:=(λA C s v y I Z ry=>by
 refine k9 Z.az λa E n qa R r=>?_;subst qa
 k_extra"9"
 refine a7 (r.get U) λw S u=>⟨"tuple",_,⟨_,R,rfl⟩,PySem.F.slot_tuple_getitem.lookup,PyProof.Rows.getItem_tuple ⟨_,R,rfl,_,rfl⟩ q c (j:=j) ?_ (x:=w) ?_ (C5 I u h)⟩
 ·rw[<- D,<- r.length];simp
 ·rw[<- cM];exact S)
theorem uI(c:M a=some (.L l))(Y:0<=k)(q:k<2 ^ 63)(U:l[k.toNat]?=some x)(h:Q x M):Itm g F (.ref a) (.int k) J M Q X:=(λA R s v y I rx ry=>by
 obtain rfl:=rx.aa;k_extra"9"
 refine a7 ((I.sim.objs a _ c).1) λC Ma r=>a7 (r.get U) λw S u=>?_
 exact⟨"list",_,Ma.isList.typeIs,slot_list_getitem.lookup,wpAny_getItem_list Ma.isList Y q (x:=w) (by rw[<- cM];exact S) (C5 I u h)⟩)
end
set_option genCtorIdx false
inductive Flo where
 | next | brk | cont
 | ret (v:V)
set_option genCtorIdx true
inductive FloRep(h:Heap):Flow->Flo->Prop
 | next:FloRep h .next .next
 | brk:FloRep h .brk .brk
 | cont:FloRep h .cont .cont
 | ret {v:Value} {V:V}:Rep h v V->FloRep h (.ret v) (.ret V)
abbrev j5:=Flo->List (Option V)->Hp->Prop
abbrev n9:=Str->List (Option V)->Hp->Prop
def pJ(g:G)(F:Blk)(A:Around)(env:Env)(M:Hp)(s:Shared)(Q:j5)(f:Flow)(s':Shared):Prop:=
 ∀ c:Prop,(∀ (w:Flo) (S:List (Option V)) (u:Hp) (r:FloRep s'.heap f w) (i:Inv g F A env S u s') (y:Step (inF A) (ownOf env) M u s s') (q:Q w S u),c)->c
def x6(g:G)(F:Blk)(A:Around)(env:Env)(M:Hp)(s:Shared)(X:n9)(e:Value)(s':Shared):Prop:=
 ∀ c:Prop,(∀ (x:Str) (S:List (Option V)) (u:Hp) (f:Fly g A e x s.heap u s'.heap) (i:Inv g F A env S u s') (y:Step (inF A) (ownOf env) M u s s') (q:X x S u),c)->c
theorem x6.no{g F A env M s v s'}{P:Prop}(p:x6 g F A env M s (λN N N=>False) v s'):P:=p _ λN N N N N N q=>q.elim
theorem pJ.step{g F A env M sv s sw Q v s'}(x:Step (inF A) (ownOf env) M sv s sw)(p:pJ g F A env sv sw Q v s'):pJ g F A env M s Q v s':=
 by refine p _ ?_;clear p;rintro V S u r i y q;exact(λz_ c=>c V S u r i (x.trans y) q)
theorem x6.step{g F A env M sv s sw X v s'}(x:Step (inF A) (ownOf env) M sv s sw)(p:x6 g F A env sv sw X v s'):x6 g F A env M s X v s':=
 by refine p _ ?_;clear p;rintro V S u r i y q;exact(λz_ c=>c V S u (r.step x) i (x.trans y) q)
theorem j6.toS{g F A env J M s v s'}{X:n9}(p:j6 g F A env J M s (λx M'=>X x J M') v s'):x6 g F A env M s X v s':=
 by refine p _ ?_;clear p;rintro x M' r i y q;exact(λz_ c=>c x J M' r i (y.mono (λz_ h=>h.elim)) q)
def Exs(g:G)(F:Blk)(c:List Stmt)(J:List (Option V))(M:Hp)(Q:j5)(X:n9):Prop:=
 ∀ A R s,Inv g F A R J M s->wpAny (model g.prog g.w) A (execs c R) (pJ g F A R M s Q) (x6 g F A R M s X) s
def Ex(g:G)(F:Blk)(st:Stmt)(J:List (Option V))(M:Hp)(Q:j5)(X:n9):Prop:=
 ∀ A R s,Inv g F A R J M s->wpAny (model g.prog g.w) A (exec st R) (pJ g F A R M s Q) (x6 g F A R M s X) s
theorem Gl{l:List Str}(hn:l.Nodup){j:Nat}{x:Str}(hi:l[i]?=some x)(hj:l[j]?=some x):i=j:=by
 k_extra"aN"
section
variable{g:G}{Q:j5}{X:n9}
theorem xQ(w:h.get? c=some o)(u:∀ vs n,o.data≠.seq vs n)(P:Heap.SameBut c h h'):l6 h h':=λb vs n e=>
 (P.2 b λq=>u vs n (congrArg Obj.data (d7 ((w.symm.trans (congrArg h.get? q.symm)).trans e)))).trans e
theorem O6(u:h.Ns c m)(P:Heap.SameBut c h h'):l6 h h':=by
 exact k9 u λo L ep w q N=>xQ w (λN N e=>gm (q.symm.trans e)) P
theorem We(u:h.IsCell c r)(P:Heap.SameBut c h h'):l6 h h':=by
 exact a7 u λo w q=>xQ w (λN N e=>gm (q.symm.trans e)) P
theorem B5.but{h:Heap}{m w:Str->Option Value}{x:Str}{v:Option V}(y:B5 env h m x v)(t:l6 h h')(e:w x=m x)(k:∀ c,env.cells.lookup x=some c->∀ r,h.IsCell c r->h'.IsCell c r):B5 env h' w x v:=by
 rcases y with ⟨q,y⟩ | ⟨q,c,r,O,D,y⟩
 ·exact .inl ⟨q,λV u=>a7 (y V u) λr E C=>⟨r,e.trans E,C.mono t⟩⟩
 ·exact .inr ⟨q,c,r,O,k c O r D,λV u=>a7 (y V u) λr E C=>⟨r,E,C.mono t⟩⟩
theorem Gr{T:Str->Option V->Prop}{c:List Str}{V:Internal.V}{i:Nat}{x:Str}{w:Option Internal.V}(D:c.Nodup)(U:c[i]?=some x)(S:J[i]?=some w)(h:T x (some V))(k:∀ (j:Nat) y u,y≠x->c[j]?=some y->J[j]?=some u->T y u)(j:Nat)(y:Str)(u:Option Internal.V)(C:c[j]?=some y)(A:(J.set i (some V))[j]?=some u):T y u:=by
 by_cases e:i=j
 ·rw[<- e] at C A
  rw[mG (cj.mp S).1] at A;rw[<- d7 (U.symm.trans C),<- d7 A];exact h
 ·rw[nF e] at A
  exact k j y u (λq=>e (Gl D U (q▸C))) C A
theorem Inv.put{c:Addr}{S:List (Option V)}{P:Prop}(I:Inv g F A env J M s)(hl:S.length=J.length)(O:ownOf env c)(C:Heap.SameBut c s.heap h')(E:l6 s.heap h')(Ja:∀ o,s.heap.get? c=some o->∃ o',h'.get? c=some o'/\(IsD o->IsD o'))
  (K:∃ m,h'.Ns env.locals m/\∀ (j:Nat) y u,F.vars[j]?=some y->S[j]?=some u->B5 env h' m y u) (w:∀ x c,env.cells.lookup x=some c->∃ v,h'.IsCell c v) (k:Inv g F A env S M {s with heap:=h',toks:=tk}->Step (inF A) (ownOf env) M M s {s with heap:=h',toks:=tk}->P):P:=by
 have D:Step (inF A) (ownOf env) M M s {s with heap:=h',toks:=tk}:=⟨⟨rfl,rfl⟩,λb o e=>by
  by_cases q:b=c
  ·rw[q] at e ⊢;exact Ja o e
  ·exact⟨o,(C.2 b q).trans e,id⟩,λb o e N L=>⟨o,(C.2 b λq=>L (q▸O)).trans e,.inl rfl⟩,E,λN N N q=>q⟩
 refine k ⟨I.scope,I.fn,I.glob,I.bk,I.room,I.units,I.quiet,⟨λb o e=>(C.2 b λq=>?_).trans (I.sim.stays b o e),λa o e=>⟨(I.sim.objs a o e).1.keep E λMa H=>(C.2 a λq=>?_).trans H,(I.sim.objs a o e).2⟩⟩,⟨hl.trans I.loc.len,K,I.loc.free,w,I.loc.apart,I.loc.other⟩,I.base,I.nd,I.frs.step D⟩ D
 ·rw[q,I.base c O] at e;exact i6 e
 ·rw[q,I.loc.free c O] at e;exact i6 e
theorem Inv.putN{S:List (Option V)}{P:Prop}{m C:Str->Option Value}(I:Inv g F A env J M s)(hl:S.length=J.length)(H:s.heap.Ns env.locals m)(q:h'.Ns env.locals C)(x:Heap.SameBut env.locals s.heap h')
  (E:∀ (j:Nat) y u,F.vars[j]?=some y->S[j]?=some u->B5 env h' C y u) (k:Inv g F A env S M {s with heap:=h',toks:=tk}->Step (inF A) (ownOf env) M M s {s with heap:=h',toks:=tk}->P):P:=
 I.put hl (.inl rfl) x (O6 H x) (λo N=>k9 q λU N N Ja D N=>⟨U,Ja,λN=>⟨_,_,D⟩⟩) ⟨C,q,E⟩ (λy c O=>d4 (I.loc.live y c O) λv w=>⟨v,w.sameBut x (I.loc.other y c O)⟩) k
theorem I5{V:Internal.V}{x:Str}{w:Option Internal.V}{QU:Unit->Shared->Prop}(I:Inv g F A env J M s)(hx:F.vars[i]?=some x)(hw:J[i]?=some w)
  (r:Rep s.heap v V) (h:∀ s',Inv g F A env (J.set i (some V)) M s'->Step (inF A) (ownOf env) M M s s'->QU () s'):wpAny (model g.prog g.w) A (storeName env x v) QU E s:=by
 refine a7 I.loc.ns λm L U=>?_
 rcases U i x _ hx hw with ⟨K,_⟩ | ⟨K,c,r0,O,D,_⟩
 ·refine wpAny_storeName_local K L (λh' Y S=>?_) (by rw[I.fn];rfl)
  have H:=O6 L S;exact I.putN dZ L Y S (Gr I.nd hx hw (.inl ⟨K,λW P=>⟨v,if_pos rfl,d7 P▸r.mono H⟩⟩) λj y u ne R hu=>(U j y u R hu).but H (if_neg ne) λc O r q=>q.sameBut S (I.loc.other y c O)) (h _)
 ·refine wpAny_storeName_cell I.fn K O D λh' Ja S=>?_
  have H:=We D S;exact I.put dZ (.inr ⟨_,O⟩) S H (λo e=>a7 Ja λo' ho N=>⟨o',ho,λq=>j7 q λes ep q=>a7 D λoc Z Ma=>gm (Ma.symm.trans ((congrArg Obj.data (d7 (Z.symm.trans e))).trans q))⟩) ⟨m,L.sameBut S (Ne.symm (I.loc.other _ _ O)),Gr I.nd hx hw (.inr ⟨K,c,_,O,Ja,λW P=>⟨v,rfl,d7 P▸r.mono H⟩⟩) λj y u ne R hu=>(U j y u R hu).but H rfl λT C r q=>q.sameBut S λz=>ne (I.loc.apart _ _ _ C (z▸O))⟩ (λy T C=>by
   by_cases q:T=c
   ·exact⟨_,q▸Ja⟩
   ·exact d4 (I.loc.live y T C) λv hv=>⟨v,hv.sameBut S q⟩) (h _)
theorem Exs.mono(h:Exs g F u J M Q X)(k:∀ f J M,Q f J M->c f J M):Exs g F u J M c X:=(λA env s I=>
 oO (h A env s I) (λN N p=>by refine p _ ?_;clear p;rintro V J' M' r i y q;exact(λN k_=>k_ V J' M' r i y (k _ _ _ q))) λN N p=>p)
theorem Exs.sub(h:Exs g F q J M' Q X)(k:Sub M' M):Exs g F q J M Q X:=(λA R s I=>by
 have D:Step (inF A) f7 M M' s s:=Step.refl.sub k;have c:Step (inF A) (ownOf R) M M' s s:=Step.refl.sub k;exact oO (h A R s (I.keep D (I.sim.sub k))) (λN N p=>p.step c) λN N p=>p.step c)
def Oz(g:G)(F:Blk)(rest:List Stmt)(Q:j5)(X:n9):j5:=λf J M=>match f with
 | .next=>Exs g F rest J M Q X
 | f=>Q f J M
theorem Nr(h:Q .next J M):Exs g F [] J M Q X:=(λA R s I=>wpAny_execs_nil (λz_ c=>c .next J M .next I Step.refl h))
theorem bv7{st:Stmt}(h:Ex g F st J M (Oz g F rest Q X) X):Exs g F (st::rest) J M Q X:=(λA R s I=>
 wpAny_execs_cons (oO (h A R s I) (λf y c=>by
  refine c _ ?_;clear c;rintro C u w r Z E q;cases r with
  | next=>exact oO ((show Exs g F rest u w Q X from q) A R y Z) (λN N p=>p.step E) λN N p=>p.step E
  | brk=>exact(λN x=>x .brk u w .brk Z E q)
  | cont=>exact(λN x=>x .cont u w .cont Z E q)
  | ret r=>exact(λN x=>x (.ret _) u w (.ret r) Z E q)) λN N p=>p))
theorem bR3(h:Q .brk J M):Ex g F (.Break pos) J M Q X:=(λA R s I=>wpAny_Break (λz_ c=>c .brk J M .brk I Step.refl h))
theorem cc5(h:Ev g F e J M (λv c=>Q (.ret v) J c) (λx c=>X x J c)):Ex g F (.Return (some e) pos) J M Q X:=(λA R s I=>
 wpAny_Return_some (pgo (h A R s I) (λv u V c r Z E q=>(λN w=>w (.ret V) J c (.ret r) Z (E.mono λN h=>h.elim) q)) λN N p=>p.toS))
theorem Li(h:Tst g F C J M (λb c=>(b=true->Exs g F Ma J c Q X)/\(b=false->Exs g F u J c Q X)) (λx c=>X x J c)):Ex g F (.If C Ma u pos) J M Q X:=(λA R s I=>
 wpAny_If (B8 (h A R s I) (λb w c Z E q=>by
  have y:Step (inF A) (ownOf R) M c s w:=E.mono λN h=>h.elim
  cases b with
  | true=>exact oO ((q.1 rfl) A R w Z) (λN N p=>p.step y) λN N p=>p.step y
  | false=>exact oO ((q.2 rfl) A R w Z) (λN N p=>p.step y) λN N p=>p.step y) λN N p=>p.toS))
end
def Cl(g:G)(F:Blk)(f:Value)(as:List V)(J:List (Option V))(M:Hp)(Q:V->Hp->Prop)(X:Str->Hp->Prop):Prop:=
 ∀ A R s c,Inv g F A R J M s->d9 s.heap c as->wpAny (model g.prog g.w) A (call f c) (l8 g F A R J M s Q) (j6 g F A R J M s X) s
def JB(g:G)(A:Around)(M:Hp)(s:Shared)(Q:V->Hp->Prop)(v:Value)(s':Shared):Prop:=
 ∀ c:Prop,(∀ (V:V) (u:Hp) (r:Rep s'.heap v V) (i:Sim g u s'.heap) (y:Step (inF A) f7 M u s s') (q:Q V u),c)->c
def Lw(g:G)(A:Around)(M:Hp)(s:Shared)(X:Str->Hp->Prop)(e:Value)(s':Shared):Prop:=
 ∀ c:Prop,(∀ (x:Str) (u:Hp) (f:Fly g A e x s.heap u s'.heap) (i:Sim g u s'.heap) (y:Step (inF A) f7 M u s s') (q:X x u),c)->c
def d8(g:G)(d:Nat)(q:Bool)(f:Str)(as:List V)(M:Hp)(Q:V->Hp->Prop)(X:Str->Hp->Prop):Prop:=
 ∀ A s u a,g.fn f=some (.ref a)->A.depth+d<recursionLimit->A.units+8*d<cLine->(q=true->A.handled=none)->Sim g M s.heap->FrL g A M s.heap->d9 s.heap u as->
  codeAny (model g.prog g.w) A (.call (.ref a) ⟨u,[]⟩) (λr c=>match r with
   | .ok (.ret v)=>JB g A M s Q v c
   | .ok _=>False
   | .error e=>Lw g A M s X e c) s
def FnO(g:G)(f:Str)(c:Arguments)(Ma:List Stmt)(scope:Scope):Prop:=
 ∀ q:Prop,(∀ (a:Addr) (o:Obj) (nm y Ja u R) (Z:g.fn f=some (.ref a)) (S:g.h₀.get? a=some o) (w:o.data=.func (D6 nm y c Ma scope Ja u R)) (x:g.h₀.CodeRec u y),q)->q
structure FnAt(g:G)(f:Str)(params:Arguments)(body:List Stmt)(scope:Scope):Prop where
 at':FnO g f params body scope
section
variable{g:G}{Q:V->Hp->Prop}
theorem s8{Ma:Model}{f:Value}{args:List (Bool×Sem Value)}{Q:Args->Shared->Prop}(q:args.any (·.1)=false)(h:wpAny Ma A (spliced args) (λvs s'=>Q ⟨vs,[]⟩ s') E s):wpAny Ma A (evalArgs f true args []) Q E s:=by
 cases args with
 | nil=>
  unfold evalArgs;show wpAny Ma A (spliced [] >>= _) Q E s;exact oM (oO h (λvs s' y=>oX (oM (oN (oM (oN (oN y)))))) λN N x=>x)
 | cons p c=>
  obtain⟨b,x⟩:=p;cases b with
  | true=>exact absurd q.symm bU
  | false=>exact Calls.evalArgs_plain h
theorem Inv.nB{x:Str}{P:Pos}{v:Value}{Q:Value->Shared->Prop}(I:Inv g F A env J M s)(K:F.sc.names.lookup x=some .globalImplicit)(c:(x==("__debug__" : Str))=false)(q:g.mg x=none)(Y:g.mb x=some v)(h:Q v s):wpAny (model g.prog g.w) A (eval (.Name x P) env) Q E s:=
 Calls.Name_function_global I.fn (by show env.scope.names.lookup x=_;rw[I.scope];exact K) (Calls.loadGlobal_builtin (by rw[I.glob];exact g.ns.keeps I.sim.stays) q (by rw[I.bk];exact g.nb.keeps I.sim.stays) Y h) c
theorem Inv.nG{x:Str}{P:Pos}{v:Value}{Q:Value->Shared->Prop}(I:Inv g F A env J M s)(K:F.sc.names.lookup x=some .globalImplicit)(c:(x==("__debug__" : Str))=false)(w:g.mg x=some v)(h:Q v s):wpAny (model g.prog g.w) A (eval (.Name x P) env) Q E s:=
 Calls.Name_function_global I.fn (by show env.scope.names.lookup x=_;rw[I.scope];exact K) (lY (by rw[I.glob];exact g.ns.keeps I.sim.stays) w h) c
theorem yR{V:Internal.V}(K:F.sc.names.lookup x=some .globalImplicit)(w:g.mg x=some c)(u:∀ h,Rep h c V)(h:Q V M)(q:(x==("__debug__" : Str))=false) :
  Ev g F (.Name x pos) J M Q X:=(λA R s I=>
 I.nG K q w (C5 I (u _) h))
theorem Uh{args:List Expr}{id:String}(K:F.sc.names.lookup x=some .globalImplicit)(y:g.mg x=none)(Y:g.mb x=some (.builtin id))
  (h:Evs g F args J M (λvs u=>Cl g F (.builtin id) vs J u Q X) X) (w:(x==("__debug__" : Str))=false):Ev g F (.Call (.Name x P) args [] pos) J M Q X:=(λA env s I=>by
 refine oU (I.nB K w y Y (d5 (h A env s pos I) λS Ma=>fj Ma (s8 Ma (oO S (λvs sw c=>?_) λN N p=>p))))
 refine c _ ?_;clear c;rintro C u rs I1 st1 q;exact oO (q A env sw vs I1 rs) (λN N p=>p.step st1) λN N p=>p.step st1)
theorem Th{args:List Expr}{id:String}(K:F.sc.names.lookup x=some .globalImplicit)(y:g.mg x=none)(Y:g.mb x=some (.type id))
  (h:Evs g F args J M (λvs u=>Cl g F (.type id) vs J u Q X) X) (w:(x==("__debug__" : Str))=false):Ev g F (.Call (.Name x P) args [] pos) J M Q X:=(λA env s I=>by
 refine oU (I.nB K w y Y (d5 (h A env s pos I) λS Ma=>callWith_excType Ma (s8 Ma (oO S (λvs sw c=>?_) λN N p=>p))))
 refine c _ ?_;clear c;rintro C u rs I1 st1 q;exact oO (q A env sw vs I1 rs) (λN N p=>p.step st1) λN N p=>p.step st1)
theorem Ub{args:List Expr}(hf:FnAt g x C Ma scope)(w:g.mg x=some v)(hk:F.sc.names.lookup x=some .globalImplicit)
  (h:Evs g F args J M (λvs y=>d8 g F.d F.q x vs y Q X) X) (hd:(x==("__debug__" : Str))=false):Ev g F (.Call (.Name x np) args [] pos) J M Q X:=(λA R s I=>by
 refine hf.at' _ ?_;rintro a o nm qn pm cd U S ho Ja H;refine oU (I.nG hk hd (w.trans ((G.bJ w).symm.trans S)) (d5 (h A R s pos I) λhw hp=>lZ (o:=o) (s8 hp (oO hw (λvs L p_=>p_ _ λVs y rs Z E q=>⟨⟨Z.sim.stays _ _ ho,Ja⟩,?_⟩) λN N p=>p))))
 refine wpAny_call (oW (q A L vs a S Z.room Z.units Z.quiet Z.sim Z.frs.l rs) λr T c=>?_)
 cases r with
 | ok Y=>
  cases Y with
  | ret v=>
   refine c _ ?_;clear c;rintro V u r K D P;exact(λN O=>O V u r (Z.keep D K) (E.trans D) P)
  | _=>exact c.elim
 | error e=>
  refine c _ ?_;clear c;rintro x u r K D P;exact(λN O=>O x u (r.step E) (Z.keep D K) (E.trans D) P))
noncomputable def wu(c:Arguments)(scope:Scope)(q:List Str):Bool:=
 decide q.Nodup&&decide (c.args.map (·.arg)=q.take c.args.length)&&decide (c.args.length<=q.length) &&
 q.all (λx=>scope.names.lookup x==some .local||scope.names.lookup x==some .cell) &&
 (scope.kind==.function) && !scope.isCoroutine && !scope.isGenerator
theorem WL{ps:List Str}:∀ {c:List Value} {m:Str->Option Value} {x:Str},k x=some .local->ps.Nodup->ps.length=c.length->
  (∀ i:Nat,ps[i]?=some x->bindL k (ps.zip c) m x=c[i]?)/\(x∉ps->bindL k (ps.zip c) m x=m x):=by
 induction ps with
 | nil=>intro c m x K hn hl;exact⟨(λi h=>(i6 h)),λz_=>rfl⟩
 | cons p ps u=>
  intro c m x K hn hl;cases c with
  | nil=>cases hl
  | cons v c=>
   have ih:=@u c (if k p=some .local then λy=>if y=p then some v else m y else m) x K (gh.mp hn).2 (Nat.succ.inj hl)
   refine⟨λi hi=>?_,λhx=>?_⟩
   ·cases i with
    | zero=>
     replace hi:=d7 hi;subst hi
     refine(ih.2 (gh.mp hn).1).trans ?_;rw[if_pos K,if_pos rfl];rfl
    | succ i=>exact ih.1 i hi
   ·refine(ih.2 λq=>hx (dX _ q)).trans ?_
    have hne:x≠p:=λq=>hx (by rw[q];exact fX)
    split
    ·exact if_neg hne
    ·rfl
theorem Kh{ps:List Str}:∀ {c:List Value} {m:Str->Option Value} {x:Str},k x≠some .local->ps.Nodup->ps.length=c.length->
  (∀ i:Nat,ps[i]?=some x->bindC k (ps.zip c) m x=c[i]?)/\(x∉ps->bindC k (ps.zip c) m x=m x):=by
 induction ps with
 | nil=>intro c m x K hn hl;exact⟨(λi h=>(i6 h)),λz_=>rfl⟩
 | cons p ps u=>
  intro c m x K hn hl;cases c with
  | nil=>cases hl
  | cons v c=>
   have ih:=@u c (if k p=some .local then m else λy=>if y=p then some v else m y) x K (gh.mp hn).2 (Nat.succ.inj hl)
   refine⟨λi hi=>?_,λhx=>?_⟩
   ·cases i with
    | zero=>
     replace hi:=d7 hi;subst hi
     refine(ih.2 (gh.mp hn).1).trans ?_;rw[if_neg K,if_pos rfl];rfl
    | succ i=>exact ih.1 i hi
   ·refine(ih.2 λq=>hx (dX _ q)).trans ?_
    have hne:x≠p:=λq=>hx (by rw[q];exact fX)
    split
    ·rfl
    ·exact if_neg hne
theorem Dn(names:List (Str×NameKind)):∀ (n:Nat) (A:List (Str×Addr)),names.lookup x=some .cell∨(A.lookup x).isSome=true->((cellsFrom n names A).lookup x).isSome=true:=by
 induction names with
 | nil=>intro n A h;exact h.elim (λe=>by exact i6 e) id
 | cons p r c=>
  obtain⟨y,k⟩:=p;intro n A h;have q:cellsFrom n ((y,k)::r) A=if (k==.cell)=true then cellsFrom (n+1) r ((y,n)::A) else cellsFrom n r A:=rfl
  rw[q];by_cases K:(k==.cell)=true
  ·rw[if_pos K]
   refine c (n+1) ((y,n)::A) ?_;by_cases hy:(x==y)=true
   ·exact .inr (by rw[eU,hy];rfl)
   ·have hy':=Bool.not_eq_true _▸hy
    refine h.imp (λe=>?_) λe=>?_
    ·rw[eU,hy'] at e;exact e
    ·rw[eU,hy'];exact e
  ·rw[if_neg K]
   refine c n A ?_;by_cases hy:(x==y)=true
   ·refine .inr (h.elim (λe=>?_) id)
    rw[eU,hy] at e;exact absurd (by rw[d7 e];rfl) K
   ·have hy':=Bool.not_eq_true _▸hy
    refine h.imp (λe=>?_) id
    rw[eU,hy'] at e;exact e
end
noncomputable def z9(h:Heap)(S:List Addr):Heap:={h with objs:=h.objs.mapIdx λi o=>if i∈S then{o with data:=.freed} else o}
theorem K7(Y:b∈S):(z9 h S).get? b=none:=by
 cases q:(z9 h S).get? b with
 | none=>rfl
 | some o=>
  obtain⟨e,f⟩:=ir.mp q;simp only[z9,jF] at e
  refine a7 (cL.mp e) λU N e=>?_
  rw[if_pos Y] at e;subst e;cases f
theorem xN(e:(z9 h S).get? b=some o):h.get? b=some o:=by
 have Y:b∉S:=λY=>by rw[K7 Y] at e;exact i6 e
 obtain⟨e,f⟩:=ir.mp e;simp only[z9,jF] at e
 refine a7 (cL.mp e) λU c e=>?_
 rw[if_neg Y] at e;subst e;exact ir.mpr ⟨c,f⟩
theorem vp(Y:b∉S)(e:h.get? b=some o):(z9 h S).get? b=some o:=by
 obtain⟨e,f⟩:=ir.mp e;refine ir.mpr ⟨?_,f⟩;simp only[z9,jF]
 rw[e,jN,if_neg Y]
theorem yg{g:G}(all:∀ e∈l,pN g M h e)(Y:∀ e∈l,∀ L,e.frame=some L->base.get? L=none):h.FunFrames base l:=by
 induction l with
 | nil=>trivial
 | cons e l w=>
  refine(all e (.head _)) _ ?_;rintro L K T - - o u ⟨y,ep,d⟩;exact⟨K,⟨L,o,T,Y e (.head _) L T,u,λC q=>by rw[d] at q;cases q⟩,w (λe c=>all e (.tail _ c)) λe c=>Y e (.tail _ c)⟩
def Ef(A:Around)(h h':Heap):Prop:=∀ b o,h.get? b=some o->(∀ c,o.data≠.fields c)->∃ U,h'.get? b=some U/\KO (inF A b) o U
section
variable{g:G}{sx:Shared}{e:Value}{x:Str}
def sG(g:G)(A:Around)(own:Addr->Prop)(zq M:Hp)(sx s:Shared)(h':Heap):Prop:=
 ∀ c:Prop,(∀ (y:Step (inF A) own zq M sx {s with heap:=h'}) (m:Sim g M h') (k:Ef A s.heap h') (t:l6 s.heap h'),c)->c
def GS(g:G)(A:Around)(M:Hp)(sx s:Shared)(b:Addr):Prop:=(∃ c o,s.heap.get? b=some o/\o.data=.fields c/\sx.heap.get? b=none/\g.h₀.get? b=none/\M b=none)∨(inF A b/\g.h₀.get? b=none/\M b=none/\∃ o,s.heap.get? b=some o/\IsD o)
theorem aX{S:List Addr}(y:Step (inF A) own zq M sx s)(K:Sim g M s.heap)(hk:∀ b o,s.heap.get? b=some o->b∉S->h'.get? b=some o)
  (F:∀ b∈S,GS g A M sx s b)
  (P:∀ b o,s.heap.get? b=some o->(∀ vs,o.data≠.fields vs)->∃ E,h'.get? b=some {o with slots:=E}):sG g A own zq M sx s h':=by
 have C:Ef A s.heap h':=λb o e D=>by
  by_cases q:b∈S
  ·rcases F b q with ⟨vs,U,u,d,-⟩ | ⟨T,-⟩
   ·rw[e] at u;k_extra"c5";exact absurd d (D vs)
   ·exact d4 (P b o e D) λE u=>⟨_,u,.inr ⟨T,E,rfl⟩⟩
  ·exact⟨o,hk b o e q,.inl rfl⟩
 have keep:∀ b o,s.heap.get? b=some o->sx.heap.get? b≠none->∃ U,h'.get? b=some U/\KO (inF A b) o U:=λb o e D=>by
  by_cases q:b∈S
  ·rcases F b q with ⟨_,_,_,_,u,-⟩ | ⟨T,-,-,U,w,L,ep,d⟩
   ·exact absurd u D
   ·rw[e] at w;replace w:=d7 w;subst w;exact C b o e λvs q=>by rw[d] at q;cases q
  ·exact⟨o,hk b o e q,.inl rfl⟩
 have H:l6 s.heap h':=λb vs n e=>by
  refine hk b _ e λq=>?_
  rcases F b q with ⟨_,_,u,d,-⟩ | ⟨-,-,-,U,w,L,ep,d⟩
  ·rw[e] at u;k_extra"c5";cases d
  ·rw[e] at w;replace w:=d7 w;subst w;cases d
 refine(λz_ O=>O ⟨y.same,λb o e=>?_,λb o e c w=>?_,y.ak.trans H,y.new⟩ ⟨λb o e=>hk b o (K.stays b o e) λq=>?_,λa o e=>⟨(K.objs a o e).1.keep H λQ Ja=>hk a Q Ja λq=>?_,(K.objs a o e).2⟩⟩ C H)
 ·refine a7 (y.dom b o e) λo1 e1 I=>?_
  k_extra"ca"
  exact⟨o2,e2,λh=>by refine j7 (I h) λL ep d=>?_;exact⟨L,ep,k2.data.trans d⟩⟩
 ·refine a7 (y.keep b o e c w) λo1 e1 Ma=>?_
  k_extra"ca"
  exact⟨o2,e2,Ma.trans k2⟩
 ·rcases F b q with ⟨_,_,_,_,_,u,_⟩ | ⟨_,u,_⟩<;>(rw[e] at u;exact D4 u)
 ·rcases F a q with ⟨_,_,_,_,_,_,u⟩ | ⟨_,_,u,_⟩<;>(rw[e] at u;exact D4 u)
theorem DX(y:Step (inF A) own zq M sx s)(K:Sim g M s.heap)(X:e=.ref a)(n:sx.heap.get? a=none)(b:g.h₀.get? a=none)(P:M a=none)(hx:g.mg x=some (.ref C))
  (F:∀ b∈S,GS g A M sx s b) (k4:∀ b o,s.heap.get? b=some o->(∀ vs,o.data≠.fields vs)->∃ sl,h'.get? b=some {o with slots:=sl}) (t:h'.TracedAtW (z9 s.heap S) a (.ref C) a0 I):D1 g e x sx.heap M h' I:=by
 obtain⟨oe,vs,T,oT,ts,L,⟨O,Y⟩,U,Z,u,Ja,D,w,R⟩:=t;have c:sx.heap.get? T=none/\g.h₀.get? T=none/\M T=none:=by
  by_cases q:T∈S
  ·rcases F T q with ⟨_,_,_,_,r⟩ | ⟨_,_,_,o,L,es,ep,d⟩
   ·exact r
   ·exact d4 (k4 T o L λz_ q=>gm (d.symm.trans q)) λz_ E=>gm (d.symm.trans ((congrArg Obj.data (d7 (E.symm.trans D))).trans w))
  ·have H:s.heap.get? T=none:=by
    cases E:s.heap.get? T with
    | none=>rfl
    | some o=>rw[vp q E] at u;exact D4 u
   refine⟨y.nix H,?_,?_⟩
   ·cases E:g.h₀.get? T with
    | none=>rfl
    | some o=>rw[K.stays _ _ E] at H;exact D4 H
   ·cases E:M T with
    | none=>rfl
    | some o=>refine d4 ((K.objs _ _ E).1.has) λob Q=>?_;rw[Q] at H;exact D4 H
 exact(λz_ Ma=>Ma a vs (λz_ Ma=>Ma C oe a0 X n b P L O hx U Y) T oT ts Z c.1 c.2.1 c.2.2 Ja D w R)
theorem Vo(T:c.frame=env.frame):noteFrame e env=noteFrame e c:=by
 unfold noteFrame frameOf;rw[T]
theorem Lp{q:Env}{l:List Env}(Ma:A.frames=some (q::l))(all:∀ e∈q::l,pN g M s.heap e):∃ S:List Addr,(∀ b∈S,GS g A M sx s b)/\∀ v∈q::l,∀ L,v.frame=some L->L∈S:=
 ⟨(q::l).filterMap (·.frame),λb Y=>a7 (List.mem_filterMap.mp Y) λv w Y=>(all v w) _ λc N Z u y o X E=>by
  replace Z:=d7 (Y.symm.trans Z);rw[<- Z] at u y X
  exact .inr ⟨⟨_,v,Ma,w,Y⟩,u,y,o,X,E⟩,λv w L h=>List.mem_filterMap.mpr ⟨v,w,h⟩⟩
theorem wK{L:Addr}(y:Step (inF A) own zq M sx s)(fs:Frs g A env M s.heap)(K:Sim g M s.heap)(f:Fly g A e x sx.heap M s.heap)(hL:env.frame=some L)
  (k:∀ h',sG g A own zq M sx s h'->D1 g e x sx.heap M h' (rawInt L)->Q () {s with heap:=h'}):wpAny (model g.prog g.w) A (noteFrame e env) Q E s:=by
 refine fs _ ?_;clear fs;k_extra"a3";rw[Vo hf];have u:=hf.trans hL;refine a7 (Lp (sx:=sx) ha all) λS fin R=>?_
 cases f with
 | made a I z Z=>
  k_extra"ck";have F:=fZ.mpr ⟨show GS g A M sx s a from .inl ⟨I,Ja,H,w,n,b,P⟩,fin⟩
  rw[q];unfold noteFrame;simp only[u]
  refine oM (wpAny_field H w Z ?_);rw[if_neg (by decide)]
  refine wpAny_entryW ha (yg all λv hv c h=>K7 (.tail _ (R v hv c h))) u H (λj j=>xN) (K7 (.head _)) w (fJ.mp Z).1 Y λh' N=>H4 N λk1 j k3 Ma=>?_
  rw[O] at k3;exact k h' (aX y K (λb o e q=>k1 b o (vp q e)) F Ma) (DX y K q n b P hx F Ma k3)
 | on fl z hfl=>
  refine z _ ?_;clear z;rintro a I z T oT ts Z nT bT sT ne D X U;have z':=z;k_extra"ck";rw[q];rcases hfl with r | ⟨l',v,c,e1,e2,r⟩
  ·have F:=fZ.mpr ⟨show GS g A M sx s a from .inl ⟨I,Ja,H,w,n,b,P⟩,fZ.mpr ⟨show GS g A M sx s T from .inl ⟨ts,oT,D,X,nT,bT,sT⟩,fin⟩⟩
   exact wpAny_noteFrame_onW (base:=z9 s.heap (a::T::S)) (cls:=.ref C) (a0:=a0) ha (yg all λv hv c h=>K7 (.tail _ (.tail _ (R v hv c h)))) u
    ⟨Ja,I,T,oT,ts,H,⟨O,Y⟩,w,Z,K7 (.tail _ (.head _)),ne,D,X,r▸U⟩ (λj j=>xN) (K7 (.head _)) λh' N=>H4 N λk1 j k3 Ma=>k h' (aX y K (λb o e q=>k1 b o (vp q e)) F Ma) (DX y K q n b P hx F Ma k3)
  ·have r:fl=rawInt L:=r.trans (congrArg (λL:Addr=>rawInt L) (d7 (e2.symm.trans ((congrArg Env.frame (List.cons.inj (d7 (e1.symm.trans ha))).1).trans u))))
   rw[r] at U;exact wpAny_noteFrame_againW (base:=z9 s.heap [a,T]) (cls:=.ref C) (a0:=a0) u ⟨Ja,I,T,oT,ts,H,⟨O,Y⟩,w,Z,K7 (.tail _ (.head _)),ne,D,X,U⟩ (k s.heap (λj k_=>k_ y K (λb o e j=>⟨o,e,.inl rfl⟩) (λj j j e=>e)) (λj k_=>k_ a I z' T oT ts Z nT bT sT ne D X U))
theorem N4{I:Value}{fo:Option Addr}(y:Step (inF A) own zq M sx s)(K:Sim g M s.heap)(f:D1 g e x sx.heap M s.heap I)
  (k:∀ h',sG g A own zq M sx s h'->D1 g e x sx.heap M h' (fo.elim Value.none λf=>rawInt f)->Q () {s with heap:=h'}):wpAny (model g.prog g.w) A (setFlight e fo) Q E s:=by
 refine f _ ?_;clear f;rintro a U z T R Ma Z H bT L ne D X O;k_extra"aj";have u:=(fJ.mp O).1;have w:∀ b,b≠T->(s.heap.update T (Obj.mapFields (·.setIfInBounds 3 (fo.elim Value.none λf=>rawInt f)))).get? b=s.heap.get? b:=λb Y=>jo _ _ (Ne.symm Y)
 unfold setFlight;refine oM (wpAny_field ho hd Z ?_);rw[if_pos (show(Value.ref T != Value.none)=true from by simp)]
 refine wpAny_setField D X u (k _ (aX (S:=[T]) y K (λb o e q=>(w b λr=>q (by rw[r];exact .head _)).trans e) (λc Ja=>?_) λb o e P=>⟨o.slots,(w b λr=>?_).trans e⟩) ?_)
 ·obtain rfl:=bV.mp Ja
  exact .inl ⟨Ma,R,D,X,H,bT,L⟩
 ·subst r;rw[D] at e;k_extra"c6";exact P Ma X
 ·exact(λz_ F=>F a U (λz_ F=>F C oe a0 rfl n b hs ((w a (Ne.symm ne)).trans ho) hc hx hd h0) T _ _ Z H bT L ne (gn _ D (Obj.isFreed_of_fields (Obj.data_mapFields X _))) (Obj.data_mapFields X _) (by simp[u]))
theorem Inv.aX(I:Inv g F A env J M s)(W:sG g A own zq M sx s h'):Inv g F A env J M {s with heap:=h'}:=by
 refine W _ ?_;clear W;rintro-m k t;refine a7 I.loc.ns λR H hv=>?_
 have Ja:∀ y c,env.cells.lookup y=some c->∀ o,s.heap.get? c=some o->∃ U,h'.get? c=some U/\U.data=o.data:=λy c O o w=>by
  refine i5 (I.loc.live y c O) λv S u d=>?_
  rw[w] at u;k_extra"c5";obtain⟨U,e,q⟩:=k c o w λMa q=>by rw[d] at q;cases q
  exact⟨U,e,q.data⟩
 refine⟨I.scope,I.fn,I.glob,I.bk,I.room,I.units,I.quiet,m,⟨I.loc.len,⟨R,Ns.kept H λo w=>?_,λi y v E C=>(hv i y v E C).keep t Ja⟩,I.loc.free,λy c O=>d4 (I.loc.live y c O) λv hv=>⟨v,Cell.kept hv (Ja y c O)⟩,I.loc.apart,I.loc.other⟩,I.base,I.nd,?_⟩
 ·refine k9 H λS D ep u d N=>?_
  rw[w] at u;replace u:=d7 u;rw[<- u] at d;obtain⟨U,e,q⟩:=k _ o w λMa q=>by rw[d] at q;cases q
  exact⟨U,e,q.data⟩
 ·refine I.frs _ ?_;k_extra"a3"
  k_extra"ay"
  rintro L K Q Y P o w ⟨D,ep,d⟩;obtain⟨U,e,q⟩:=k L o w λMa q=>by rw[d] at q;cases q
  exact(λN k_=>k_ L K Q Y P U e ⟨D,ep,q.data.trans d⟩)
theorem Frs.frame(x:Frs g A env M h):∃ v l L,A.frames=some (v::l)/\v.frame=some L/\env.frame=some L:=by
 k_extra"bm";k_extra"a3";refine(all e0 (.head _)) _ ?_;rintro L _ Z _ _ _ _ _;exact⟨e0,l,L,ha,Z,hf.symm.trans Z⟩
theorem uC{X:n9}(p:x6 g F A env zq sx X e s):notedBy (model g.prog g.w) A env (λx R=>cameBackBy (model g.prog g.w) A env (x6 g F A env zq sx X) x R) e s:=by
 k_extra"3";rintro x S u f I st q;refine k9 I.frs.frame λv l L Z P Ja=>wK st I.frs I.sim f Ja λE W y=>?_
 have U:=I.aX W;refine W _ ?_;clear W;rintro w K - -;have H:=y;refine y _ ?_;clear y;k_extra"cE";refine oM (wpAny_field (s:={s with heap:=E}) ho hd e1 ?_)
 k_extra"bM"
 refine N4 (s:={s with heap:=E}) (fo:=env.frame) w K H λMa W D=>?_
 have Y:=U.aX W;refine W _ ?_;clear W;rintro c O - -;rw[Ja] at D;exact(λz_ Q=>Q x S u (.on _ D (.inr ⟨l,v,L,Z,P,rfl⟩)) Y c q)
end
section
variable{g:G}{Q:V->Hp->Prop}
noncomputable def HB:Flo->V
 | .ret v=>v
 | _=>.none
theorem WD(A:Around)(env:Env):(A.deeper env).units=A.units+3:=rfl
theorem bD7(A:Around)(env:Env):(A.deeper env).depth=A.depth+1:=rfl
theorem zJ(st:Step (inF (A.deeper v)) (ownOf v) M M' s s')(hl:FrL g A M s.heap)(T:v.frame=some v.locals)(fresh:∀ b,ownOf v b->s.heap.get? b=none):Step (inF A) f7 M M' s s':=
 ⟨st.same,st.dom,λb o e c N=>by
  obtain⟨U,x,k⟩:=st.keep b o e c λY=>(by rw[fresh b Y] at e;exact i6 e)
  refine⟨U,x,k.mono λq=>g6 q λl w Z S u=>hl _ ?_⟩
  clear hl;rintro C Ma -;have y:(A.deeper v).frames=some (v::C):=by show A.frames.map (v :: ·)=_;rw[Ma];rfl
  rw[y] at Z;replace Z:=d7 Z;clear y;clear c;clear x;clear k;clear q;subst Z;rcases bR.mp S with rfl | S
  ·rw[T] at u;k_extra"c5"
   rw[fresh _ (.inl rfl)] at e;exact i6 e
  ·exact⟨C,w,Ma,S,u⟩,st.ak,st.new⟩
theorem ct2(hf:FnAt g f u Ma scope)
  (ok:wu u scope C=true) (Ja:u.args.length=args.length)
  (Y:∀ nm qn pm Z R vs,vs.length=u.args.length->bindArgs (D6 nm qn u Ma scope pm Z R) ⟨vs,[]⟩=pure ((u.args.map (·.arg)).zip vs))
  (h:Exs g ⟨scope,C,d,q⟩ Ma (args.map some++bY (C.length-args.length) none) M (λfl J' M'=>∃ L,Sub L M'/\Q (HB fl) L) (λx N M'=>X x M')) :
  d8 g (d+1) q f args M Q X:=(λA s vs a hm hdep hun hq sm fl rs=>by
 refine hf.at' _ ?_;rintro a' o nm qn pm Z R hm' ho hdat hcd;rw[hm] at hm';cases hm';unfold wu at ok;simp only[eV,decide_eq_true_eq,cX,iu,beq_iff_eq,Bool.not_eq_true'] at ok
 obtain⟨⟨⟨⟨⟨⟨hnd,K⟩,hle⟩,H⟩,hkf⟩,hco⟩,hgen⟩:=ok;have hlen:u.args.length=vs.length:=by rw[Ja,rs.length]
 have P:(u.args.map (·.arg)).length=vs.length:=by simpa using hlen
 have hnd':(u.args.map (·.arg)).Nodup:=by rw[K];exact hnd.sublist (List.take_sublist _ _)
 have hin:∀ x∈u.args.map (·.arg),x∈C:=λx hx=>by rw[K] at hx;exact gO hx
 refine codeAny_call_cells (fd:=D6 nm qn u Ma scope pm Z R) (binds:=(u.args.map (·.arg)).zip vs) (mH hdep) (sm.stays _ _ ho) hdat (g.nolimit.keeps sm.stays) (hcd.keeps sm.stays) rfl (Y _ _ _ _ _ _ hlen.symm) rfl (λx hx=>?_) (λF S=>?_) hco hgen hkf
 ·have hx':=hin x.1 (List.of_mem_zip (a:=x.1) (b:=x.2) hx).1
  rcases H _ hx' with e | e
  ·exact .inl e
  ·exact .inr ⟨e,Dn _ _ _ (.inl e)⟩
 ·have hL:s.heap.get? s.heap.objs.size=none:=u5 _
  have fresh:∀ b,s.heap.objs.size<=b->s.heap.get? b=none:=λb=>I9
  have own:∀ b,ownOf (callEnvC (D6 nm qn u Ma scope pm Z R) s.heap.objs.size a) b->s.heap.objs.size<=b:=λb Y=>by
   rcases Y with rfl | ⟨c,hc⟩
   ·exact cO _
   ·exact dK (S.above c b (mem_of_lookup hc))
  have E:∀ b,s.heap.objs.size<=b->M b=none:=λb Y=>sm.no (fresh b Y)
  have D:∀ b,s.heap.objs.size<=b->g.h₀.get? b=none:=λb Y=>sm.base (fresh b Y)
  refine j7 S.toInCall.same λqz tk1 O=>?_
  have tu:l6 s.heap F.heap:=λb N N e=>S.toInCall.keep b _ e
  have st:∀ {fr own:Addr->Prop},Step fr own M M s F:=by intro fr own;rw[O];exact Step.grow λb o e=>by have:=S.toInCall.keep b o e;rw[O] at this;exact this
  have I:Inv g ⟨scope,C,d,q⟩ (A.deeper (callEnvC (D6 nm qn u Ma scope pm Z R) s.heap.objs.size a)) (callEnvC (D6 nm qn u Ma scope pm Z R) s.heap.objs.size a)
    (args.map some++bY (C.length-args.length) none) M F:=by
   refine⟨rfl,hkf,rfl,rfl,by rw[bD7];show A.depth+1+d<_;exact bm6 hdep,by rw[WD];show A.units+3+8*d<_;lia,λe=>hq e,sm.grow S.toInCall.keep,⟨by simp only[cC,bQ,dG];lia,⟨_,S.toInCall.ns,λi x v hx w=>?_⟩,λb Y=>E b (own b Y),λy c hc=>⟨_,S.cell y c hc⟩,λx y c h1 h2=>name_of_addr S.apart (mem_of_lookup h1) (mem_of_lookup h2),λy c hc=>λe=>ik _ (e▸S.above y c (mem_of_lookup hc))⟩,λb Y=>D b (own b Y),hnd,?_⟩
   ·have hxk:=H x (cA hx)
    have hval:∀ V,v=some V->∃ r,(u.args.map (·.arg))[i]?=some x/\vs[i]?=some r/\Rep F.heap r V:=λV hV=>by
     rw[hV] at w;by_cases hi:i<args.length
     ·rw[gP (by simpa using hi),bW] at w
      refine a7 (cL.mp w) λW hW hW'=>?_
      replace hW':=d7 hW';subst hW'
      refine a7 (rs.get hW) λr e1 e2=>⟨r,?_,e1,e2.mono tu⟩
      rw[K,List.getElem?_take];rw[if_pos (vq Ja hi)];exact hx
     ·rw[eX (by simpa using hi),List.getElem?_replicate] at w
      split at w<;>cases w
    rcases hxk with e | e
    ·refine .inl ⟨e,λV hV=>?_⟩
     exact f5 (hval V hV) λr e1 e2 e3=>⟨r,by rw[(WL (k:=(callEnvC (D6 nm qn u Ma scope pm Z R) s.heap.objs.size a).kindOf) e hnd' P).1 i e1];exact e2,e3⟩
    ·refine d4 (fO.mp (Dn scope.names (s.heap.objs.size+1) [] (.inl e))) λc hc=>.inr ⟨e,c,_,hc,S.cell x c hc,λV hV=>?_⟩
     exact f5 (hval V hV) λr e1 e2 e3=>⟨r,by rw[(Kh (k:=(callEnvC (D6 nm qn u Ma scope pm Z R) s.heap.objs.size a).kindOf) (by show scope.names.lookup x≠_;rw[e];decide) hnd' P).1 i e1];exact e2,e3⟩
   ·refine fl _ ?_;clear fl;rintro l0 ha all
    refine(λN T=>T _ l0 (by show A.frames.map _=_;rw[ha];rfl) rfl (λv w=>?_))
    rcases bR.mp w with rfl | w
    ·refine k9 S.toInCall.ns λo es ep ho hd N=>?_
     have hm:scope.kind≠.module:=by rw[hkf];decide
     exact(λN T=>T _ hm rfl (D _ (own _ (.inl rfl))) (E _ (own _ (.inl rfl))) o ho ⟨es,ep,hd⟩)
    ·exact(all v w).step (st (fr:=f7) (own:=f7))
  refine oO (h _ _ F I) (λfl' s' p0=>?_) (λe s' p0=>?_)
  ·refine p0 _ ?_;clear p0;rintro f' J' M' r I' st' ⟨L,U,hQ⟩
   have st2:=zJ (st.trans (st'.sub U)) fl rfl λb Y=>fresh b (own b Y)
   cases r with
   | ret r=>exact(λN T=>T _ L r (I'.sim.sub U) st2 hQ)
   | _=>exact(λN T=>T _ L .none (I'.sim.sub U) st2 hQ)
  ·refine p0 _ ?_;clear p0;rintro x J' M' r I' st' hX
   unfold leaving;refine oM (wK st' I'.frs I'.sim r rfl λh₂ W zx=>W _ ?_)
   clear W;rintro y2 m2 - -;refine N4 (s:={s' with heap:=h₂}) (fo:=none) y2 m2 zx λh3 W F₃=>W _ ?_
   clear W;rintro y3 m3 - -;exact(λN T=>T x M' (.on _ (F₃.step (st (fr:=f7) (own:=f7))) (.inl rfl)) m3 (zJ (st.trans y3) fl rfl λb Y=>fresh b (own b Y)) hX))
end
structure IterOK(g:G)(A:Around)(I:Addr)(L:List V)(K:Hp->Prop)(St:Nat->Heap->Prop):Prop where
 frame:∀ i h h',St i h->(∀ o,h.get? I=some o->h'.get? I=some o)->l6 h h'->St i h'
 obj:∀ i h,St i h->∃ o vs,h.get? I=some o/\o.data=.fields vs
 item:∀ i x M (s:Shared) (Q:Option Value->Shared->Prop) (E:Value->Shared->Prop),L[i]?=some x->St i s.heap->Sim g M s.heap->K M->
  (∀ v h' tk,Rep h' v x->St (i+1) h'->Heap.ExtBut I s.heap h'->Q (some v) {s with heap:=h',toks:=tk})->wpAny (model g.prog g.w) A (pyNext (.ref I)) Q E s
 done:∀ M (s:Shared) (Q:Option Value->Shared->Prop) (E:Value->Shared->Prop),St L.length s.heap->Sim g M s.heap->K M->
  (∀ h' tk,Heap.ExtBut I s.heap h'->Q none {s with heap:=h',toks:=tk})->wpAny (model g.prog g.w) A (pyNext (.ref I)) Q E s
 self:∀ i (s:Shared) (Q:Value->Shared->Prop) (E:Value->Shared->Prop),St i s.heap->Q (.ref I) s->wpAny (model g.prog g.w) A (pyIter (.ref I)) Q E s
 plain:∀ i (s:Shared) (v:Value) (elts:List Expr) (k:Nat) (pos:Pos) (Q:Unit->Shared->Prop) (E:Value->Shared->Prop),St i s.heap->Q () s->wpAny (model g.prog g.w) A (letOwnedTupleGo (.Tuple elts k pos) (.ref I) v) Q E s
theorem T9
  (x:s.heap.get? I=some o) (O:o.cls=.type n) (q:o.data=.fields vs) (w:["enumerate","zip","dict_itemiterator","dict_reverseitemiterator","odict_iterator","itertools.zip_longest","itertools.pairwise"].contains n=false) (c:Q () s) :
  wpAny Ma A (letOwnedTupleGo (.Tuple u k pos) (.ref I) v) Q E s:=by
 unfold letOwnedTupleGo;cases v with
 | ref T=>
  refine oM (wpAny_load x ?_);rw[O,q];show wpAny _ A (if (["enumerate","zip","dict_itemiterator","dict_reverseitemiterator","odict_iterator","itertools.zip_longest","itertools.pairwise"].contains n&&vs[0]? == some (rawInt T))=true then _ else _) Q E s
  rw[w,jj];exact oN c
 | _=>exact oN c
theorem O3(u:h.get? I=some o)(c:o.data=.fields vs)(x:Heap.ExtBut I h h'):l6 h h':=λb L n e=>x b _ (λq=>by
 rw[q,u] at e;replace e:=d7 e;subst e;cases c) e
theorem bY6(u:A.handled=none):IterOK g A I L (λM=>M ax=some (.L L)) (λi h=>h.IsListIter I ax i) where
 frame:=λi h h' st k N=>by refine a7 st λo ho r=>?_;exact⟨o,k _ ho,r⟩
 obj:=λi h st=>by refine f5 st λo ho N hd=>?_;exact⟨o,_,ho,hd⟩
 item:=λi x M s Q E hx st sm hK hQ=>by
  exact a7 ((sm.objs _ _ hK).1) λC Ma r=>a7 (r.get hx) λv w y=>f5 (id st) λo ho hc hd=>wpAny_pyNext_list_item st Ma.isList (x:=v) (by rw[<- cM];exact w) λh' c S=>hQ v h' s.toks (y.mono (O3 ho hd S.extBut)) c S.extBut
 done:=λM s Q E st sm hK hQ=>by
  exact a7 ((sm.objs _ _ hK).1) λC Ma r=>wpAny_pyNext_list_end u st Ma.isList (by rw[<- cM];simp[<- r.length]) λh' q=>hQ h' s.toks q
 self:=λi s Q E st hQ=>wpAny_pyIter_listiter st hQ
 plain:=λi s v elts k pos Q E st hQ=>by refine f5 st λo ho hc hd=>?_;exact T9 ho hc hd (by decide) hQ
theorem Og(F:A.handled=none){vs:Array Value}{n:Nat}:
  IterOK g A I L (λz_=>True) (λi h=>h.IsTupleIter I t i/\h.get? t=some {cls:=.type "tuple",data:=.seq vs n}/\d9 h vs.toList L) where
 frame:=λi h y st k t=>by obtain⟨⟨o,ho,r⟩,a,b⟩:=st;exact⟨⟨o,k _ ho,r⟩,t _ _ _ a,b.mono t⟩
 obj:=λi h st=>by obtain⟨⟨o,ho,_,hd⟩,_⟩:=st;exact⟨o,_,ho,hd⟩
 item:=λi x M s Q E hx st sm hK hQ=>by
  refine i4 st λq R r=>a7 (r.get hx) λv w H=>f5 (id q) λo ho hc hd=>wpAny_pyNext_tuple_item q ⟨_,R,rfl,_,rfl⟩ (x:=v) (by rw[<- cM];exact w) λy c S=>?_
  have C:=O3 ho hd S.extBut;exact hQ v y s.toks (H.mono C) ⟨c,C _ _ _ R,r.mono C⟩ S.extBut
 done:=λM s Q E st sm hK hQ=>by
  exact i4 st λq R r=>wpAny_pyNext_tuple_end F q ⟨_,R,rfl,_,rfl⟩ (by rw[<- cM];simp[<- r.length]) λy D=>hQ y s.toks D
 self:=λi s Q E st hQ=>wpAny_pyIter_tupleiter st.1 hQ
 plain:=λi s v u k pos Q E st hQ=>by obtain⟨⟨o,ho,hc,hd⟩,_⟩:=st;exact T9 ho hc hd (by decide) hQ
noncomputable def m6(a c:Int)(n:Nat):List V:=(cY n).map fun(i:Nat)=>.int (a+(i:Int)*c)
theorem O2(a c:Int)(n:Nat):(m6 a c n).length=n:=by simp[m6]
theorem JG(h:(m6 a c n)[i]?=some x):i<n/\x=.int (a+i*c):=by
 have q:i<n:=by
  have:=(cj.mp h).1;rwa[O2] at this
 unfold m6 at h;rw[bW,gB q] at h;exact⟨q,(d7 h).symm⟩
theorem YB(F:A.handled=none):
  IterOK g A I (m6 a c n) (λz_=>True) (λi h=>IsRangeIter h I (a+(i:Nat)*c) ((n:Int)-(i:Nat)) c) where
 frame:=λi h y st k t=>k _ st
 obj:=λi h st=>⟨_,_,st,rfl⟩
 item:=λi x M s Q E hx st sm hK hQ=>by
  refine d5 (JG hx) λH Ja=>?_;subst Ja
  refine wpAny_pyNext_range_item st (Mu H) λy q S=>hQ _ y _ (.int _ _) ?_ S.extBut
  have w:a+((i+1:Nat):Int)*c=a+(i:Int)*c+c:=by rw[Int.natCast_succ,Int.add_mul];lia
  have C:(n:Int)-((i+1:Nat):Int)=(n:Int)-(i:Int)-1:=by lia
  show IsRangeIter y I (a+((i+1:Nat):Int)*c) ((n:Int)-((i+1:Nat):Int)) c;rw[w,C];exact q
 done:=λM s Q E st sm hK hQ=>by
  rw[O2] at st;exact wpAny_pyNext_range_end F st (by lia) λy D=>hQ y s.toks D
 self:=λi s Q E st hQ=>wpAny_pyIter_rangeiter st hQ
 plain:=λi s v u k pos Q E st hQ=>T9 st rfl rfl (by decide) hQ
section
variable{w:World}
theorem DY{target it body orelse env}(I:Nat->Shared->Prop)
  (H:∀ n s,I n s->∀ (T:Flow->Shared->Prop) (E:Value->Shared->Prop) (C:Option Value->Shared->Prop),(∀ m s,m<n->I m s->T .next s/\T .cont s)->(∀ s,R (.ok .next) s->T .brk s)->(∀ v s,R (.ok (.ret v)) s->T (.ret v) s)->(∀ e s,notedBy (model prog w) A env (λe s'=>R (.error e) s') e s->E e s)->(∀ s,wpAny (model prog w) A (execs orelse env) (λf P=>R (.ok f) P) E s->C none s)->
   (∀ v s,wpAny (model prog w) A (letOwnedTupleGo target it v) (λN sw=>wpAny (model prog w) A (assign target env v) (λN u=>wpAny (model prog w) A (execs body env) T E u) E sw) E s->C (some v) s)->wpAny (model prog w) A (pyNext it) C E s)
  (n:Nat) (h:I n s):codeAny (model prog w) A (.forLoop target it body orelse env) R s:=by
 refine codeAny_loop' rfl I (λn s Ja=>?_) n h
 show wpAny _ _ ((forTurn target it body orelse env).onRaise (λx=>do noteFrame x env;theTreesLotGoes x)) _ _ s
 refine wpAny_noted ?_;simp only[forTurn]
 refine oM (wpAny_standAt (oM (wpAny_onRaise (oO (H n s Ja (λf P=>match f with
   | .next | .cont=>∃ m,m<n/\I m P
   | .brk=>R (.ok .next) P
   | .ret v=>R (.ok (.ret v)) P) _ _ (λm s Z S=>⟨⟨m,Z,S⟩,m,Z,S⟩) (λN h=>h) (λN N h=>h) (λN N h=>h) ?_ ?_) (λN N h=>h) λN N y=>wpAny_standAt y))))
 ·exact λs h=>oN (.inr ⟨rfl,codeAny_block h⟩)
 ·refine λv s q=>oM (oO q (λN sw q=>oM (oO q (λN u D=>oM (oO D (λf P c=>?_) λN N y=>y)) λN N y=>y)) λN N y=>y)
  cases f with
  | next=>exact oN (.inl ⟨rfl,c⟩)
  | cont=>exact oN (.inl ⟨rfl,c⟩)
  | brk=>exact oN c
  | ret v=>exact oN c
end
section
variable{g:G}
theorem Step.but(x:Step fr own M c s sw)(e:Heap.ExtBut I sw.heap h')(u:s.heap.get? I=none):Step fr own M c s {sw with heap:=h',toks:=tk}:=by
 have ne:∀ b o,s.heap.get? b=some o->b≠I:=λb o hb q=>by rw[q,u] at hb;exact i6 hb
 k_extra"B"
theorem Sim.but(x:Sim g M h)(e:Heap.ExtBut I h h')(t:l6 h h')(Z:M I=none)(u:g.h₀.get? I=none):Sim g M h':=
 ⟨λb o Y=>e b o (λq=>by rw[q,u] at Y;exact i6 Y) (x.stays b o Y),λa o Ma=>⟨(x.objs a o Ma).1.keep t λy c=>e a y (λq=>by rw[q,Z] at Ma;exact i6 Ma) c,(x.objs a o Ma).2⟩⟩
theorem Step.thing(x:Step fr f7 M M' s s')(c:M b=none)(Y:s.heap.get? b=some o)(T:¬ fr b):s'.heap.get? b=some o:=x.exact Y c id T
theorem Inv.but(Ja:Inv g F A env J M s)(e:Heap.ExtBut I s.heap h')(t:l6 s.heap h')(Z:M I=none)(S:¬ ownOf env I)(x:g.h₀.get? I=none)(X:¬ inF A I) :
  Inv g F A env J M {s with heap:=h',toks:=tk}:=by
 refine a7 Ja.loc.ns λm hn hv=>?_
 have hl:∀ b o,ownOf env b->s.heap.get? b=some o->h'.get? b=some o:=λb o Y u=>e b o (λq=>S (q▸Y)) u
 refine⟨Ja.scope,Ja.fn,Ja.glob,Ja.bk,Ja.room,Ja.units,Ja.quiet,Ja.sim.but e t Z x,
  ⟨Ja.loc.len,⟨m,hn.at' λo ho=>hl _ o (.inl rfl) ho,λi y v E C=>(hv i y v E C).keep t λy c hc o ho=>⟨o,hl c o (.inr ⟨y,hc⟩) ho,rfl⟩⟩,Ja.loc.free,λy c hc=>?_,Ja.loc.apart,Ja.loc.other⟩,Ja.base,Ja.nd,?_⟩
 ·k_extra"as"
 ·refine Ja.frs _ ?_;k_extra"a3"
  k_extra"ay"
  rintro L K Q Y P o ho d;exact(λz_ k_=>k_ L K Q Y P o (e L o (λq=>X ⟨_,v,ha,hv,q▸Q⟩) ho) d)
theorem Inv.aW(Ja:Inv g F A env J M s)(h:s.heap.get? I=none):¬ ownOf env I:=λq=>by
 rcases q with rfl | ⟨y,O⟩
 ·obtain⟨m,⟨o,_,_,c,_⟩,_⟩:=Ja.loc.ns
  rw[h] at c;exact i6 c
 ·refine i5 (Ja.loc.live y I O) λN o c N=>?_;rw[h] at c;exact i6 c
theorem Inv.aR(Ja:Inv g F A env J M s)(h:s.heap.get? I=none):¬ inF A I:=Ja.frs.not (.inl h)
theorem Inv.aG(Ja:Inv g F A env J M s)(h:s.heap.get? I=none):g.h₀.get? I=none:=Ja.sim.base h
def bC1(g:G)(F:Blk)(A:Around)(env:Env)(J:List (Option V))(M:Hp)(s:Shared)(Q:List V->(Hp->Prop)->Hp->Prop)(C:Value)(T:Shared):Prop:=
 ∀ x:Prop,(∀ (I:Addr) (L:List V) (K:Hp->Prop) (c:Nat->Heap->Prop) (u:Hp) (e:C=.ref I) (w:IterOK g A I L K c) (D:c 0 T.heap) (n:s.heap.get? I=none) (m:u I=none) (i:Inv g F A env J u T) (y:Step (inF A) f7 M u s T) (q:Q L K u),x)->x
structure Itr(g:G)(F:Blk)(e:Expr)(J:List (Option V))(M:Hp)(Q:List V->(Hp->Prop)->Hp->Prop)(X:Str->Hp->Prop):Prop where
 run:∀ A env s,Inv g F A env J M s->A.handled=none->wpAny (model g.prog g.w) A (eval e env) (λx sw=>wpAny (model g.prog g.w) A (pyIter x) (bC1 g F A env J M s Q) (j6 g F A env J M s X) sw) (j6 g F A env J M s X) s
 fold:∀ env x,foldedSetIterable e env x=pure x
structure Asg(g:G)(F:Blk)(t:Expr)(v:V)(J:List (Option V))(M:Hp)(Q:List (Option V)->Prop):Prop where
 run:∀ A env s x (QU:Unit->Shared->Prop) (E:Value->Shared->Prop),Inv g F A env J M s->A.handled=none->Rep s.heap x v->
  (∀ s' J',Inv g F A env J' M s'->Step (inF A) (ownOf env) M M s s'->Q J'->QU () s')->wpAny (model g.prog g.w) A (assign t env x) QU E s
 tgt:(∃ x p,t=.Name x p)∨∃ es k p,t=.Tuple es k p
def F5(Q:j5)(Ja:List V->List (Option V)->Hp->Prop)(l:List V):j5:=λf J M=>match f with
 | .next=>Ja l J M
 | .cont=>Ja l J M
 | .brk=>Q .next J M
 | .ret v=>Q (.ret v) J M
def Av(g:G)(F:Blk)(A:Around)(env:Env)(L:List V)(Ja:List V->List (Option V)->Hp->Prop)(c:Nat->Heap->Prop)(x:Addr)(M:Hp)(s:Shared)(n:Nat)(s':Shared):Prop:=
 ∀ q:Prop,(∀ (i:Nat) (S:List (Option V)) (u:Hp) (Z:i+n=L.length+1) (y:i<=L.length) (C:Ja (L.drop i) S u) (X:c i s'.heap) (E:u x=none) (U:Inv g F A env S u s') (D:Step (inF A) (ownOf env) M u s s'),q)->q
theorem bh6{X:n9}{K:Hp->Prop}(hh:A.handled=none)(W:IterOK g A P L K St)(hfr:s.heap.get? P=none)(u:¬ ownOf env P)(D:g.h₀.get? P=none)(U:¬ inF A P)
  (O:∀ v l S M',Ja (v::l) S M'->K M'/\Asg g F t v S M' (λJ''=>Exs g F body J'' M' (F5 Q Ja l) X)) (hend:∀ S M',Ja [] S M'->K M'/\Q .next S M') (kO:∀ f s',pJ g F A env M s Q f s'->QQ (.ok f) s') (kE:∀ e s',notedBy (model g.prog g.w) A env (λx s'=>cameBackBy (model g.prog g.w) A env (x6 g F A env M s X) x s') e s'->notedBy (model g.prog g.w) A env (λx s'=>QQ (.error x) s') e s') (h₀:Av g F A env L Ja St P M s n₀ sx) :
  codeAny (model g.prog g.w) A (.forLoop t (.ref P) body [] env) QQ sx:=by
 refine DY (Av g F A env L Ja St P M s) ?_ n₀ h₀;k_extra"bX";rintro i S M' hn hi R I q I' st';refine i5 (W.obj i _ I) λoI vI hoI hdI=>?_
 by_cases H:i<L.length
 ·have hd:=gQ H
  rw[hd] at R;refine d5 (O _ _ _ _ R) λhK asg=>W.item i L[i] M' s' _ _ (bO H) I I'.sim hK λv h' tk hr Ma hx=>c1 _ _ ?_
  have I1:=I'.but (tk:=tk) hx (O3 hoI hdI hx) q u D U;have go:∀ {QU:Unit->Shared->Prop} {E:Value->Shared->Prop},QU () {s' with heap:=h',toks:=tk}->wpAny (model g.prog g.w) A (letOwnedTupleGo t (.ref P) v) QU E {s' with heap:=h',toks:=tk}:=fun{QU E} hQ=>by
   clear O;rcases asg.tgt with ⟨x,p,rfl⟩ | ⟨es,k,p,rfl⟩
   ·exact oN hQ
   ·exact W.plain (i+1) _ v es k p QU E Ma hQ
  refine go (asg.run A env _ v _ _ I1 hh hr λs3 J3 I3 st3 hex=>?_)
  have st13:=(st'.but (tk:=tk) hx hfr).trans st3;k_extra"aF"
  clear p4;rintro f' J4 M4 hf I4 Z c;have y:=st13.trans Z;refine i5 (W.obj _ _ Ma) λo1 v1 e1 d1=>?_
  have hI3:=st3.exact e1 q u U;have hst4:=W.frame _ _ _ Ma (λo ho=>by rw[e1] at ho;replace ho:=d7 ho;clear asg;subst ho;exact(Z.exact hI3 q u U)) (st3.ak.trans Z.ak)
  have hM4:=Z.new P o1 hI3 q;have go:=tn (n-1) s4 (l_4 hn hi);cases hf with
  | next=>exact(go λz_ Y=>Y (i+1) J4 M4 (l_3 hn hi) H c hst4 hM4 I4 y).1
  | cont=>exact(go λz_ Y=>Y (i+1) J4 M4 (l_3 hn hi) H c hst4 hM4 I4 y).2
  | brk=>exact tb _ (kO _ _ λz_ Y=>Y .next J4 M4 .next I4 y c)
  | ret r=>exact tr _ _ (kO _ _ λz_ Y=>Y (.ret _) J4 M4 (.ret r) I4 y c)
 ·have hii:i=L.length:=l_2 hi H
  rw[hii,lH] at R;exact d5 (hend _ _ R) λhK hQ=>W.done M' s' _ _ (hii▸I) I'.sim hK λh' tk hx=>c0 _ (wpAny_execs_nil (kO _ _ (λz_ Y=>Y .next S M' .next (I'.but (tk:=tk) hx (O3 hoI hdI hx) q u D U) (st'.but (tk:=tk) hx hfr) hQ)))
theorem bC6{X:n9}(hq:F.q=true)
  (h:Itr g F iter J M (λL K c=>∃ Ja:List V->List (Option V)->Hp->Prop,Ja L J c/\(∀ v l S M',Ja (v::l) S M'->K M'/\Asg g F t v S M' (λq=>Exs g F Ma q M' (F5 Q Ja l) X))/\∀ S M',Ja [] S M'->K M'/\Q .next S M') (λx c=>X x J c)) :
  Ex g F (.For t iter Ma [] pos) J M Q X:=(λA R s I=>by
 have Z:=I.quiet hq;refine wpAny_For (oO (h.run A R s I Z) (λx sw O=>oO O (λit s₂ u=>u _ ?_) λN N p=>p.toS) λN N p=>p.toS) (h.fold R)
 clear u;rintro It L K St c rfl W Y P H U C ⟨Ja,hJ,y,E⟩;have D:=I.aG P;have T:=I.aR P;exact bh6 Z W P (I.aW P) D T y E (λN N p=>p) (λN N p=>p) (n₀:=L.length+1)
  (λN k_=>k_ 0 J c (by lia) (cP _) (by simpa using hJ) Y H U (C.mono λN h=>h.elim)))
theorem Itr.mono{D:List V->(Hp->Prop)->Hp->Prop}(h:Itr g F e J M Q X)(k:∀ L K M,Q L K M->D L K M):Itr g F e J M D X:=
 ⟨λA R s I U=>oO (h.run A R s I U) (λx H y=>oO y (λit T p=>by refine p _ ?_;clear p;rintro Ja L K c u E C Ma O Y P S q;exact(λN Z=>Z Ja L K c u E C Ma O Y P S (k _ _ _ q))) λN N p=>p) λN N p=>p,h.fold⟩
end
section
variable{g:G}
theorem Step.aY{o:Obj}(x:Step fr own M c s sw):Step fr own M c s {sw with heap:=sw.heap.push o}:=x.trans Step.push
theorem Step.aK(x:Step fr own M c s sw):s.heap.get? sw.heap.objs.size=none:=by
 cases q:s.heap.get? sw.heap.objs.size with
 | none=>rfl
 | some o=>refine a7 (x.dom _ o q) λU O N=>?_;rw[u5] at O;exact i6 O
def Oq(g:G)(F:Blk)(A:Around)(env:Env)(J:List (Option V))(M:Hp)(s:Shared)(Q:Int->Int->Int->Hp->Prop)(x:Value)(sw:Shared):Prop:=
 ∀ C:Prop,(∀ (r:Addr) (a b c:Int) (t u v:Tok) (w:Hp) (e:x=.ref r) (o:IsRange sw.heap r a b c t u v) (i:Inv g F A env J w sw) (y:Step (inF A) f7 M w s sw) (q:Q a b c w),C)->C
def Rng(g:G)(F:Blk)(e:Expr)(J:List (Option V))(M:Hp)(Q:Int->Int->Int->Hp->Prop)(X:Str->Hp->Prop):Prop:=
 ∀ A R s,Inv g F A R J M s->wpAny (model g.prog g.w) A (eval e R) (Oq g F A R J M s Q) (j6 g F A R J M s X) s
theorem ct6(hk:F.sc.names.lookup x=some .globalImplicit)(hg:g.mg x=none)(hb:g.mb x=some (.type "range"))
  (h:Ev g F e J M (λv c=>∃ n,v=.int n/\Q 0 n 1 c) X) (hd:(x==("__debug__" : Str))=false) (he:∀ env,pg [e] env=(false,eval e env)::pg [] env):Rng g F (.Call (.Name x P) [e] [] pos) J M Q X:=(λA env s I=>by
 refine oU (I.nB hk hd hg hb ?_);k_extra"bP"
 refine callWith_excType hp (s8 hp (wpAny_items_cons (pgo (h A env s I) (λv w V c r Z E q=>wpAny_items_nil (a7 q λn u y=>?_)) λN N p=>p) (he env)))
 rw[u] at r q;refine d4 r.ofInt λN qa=>?_;subst qa
 refine call_range_1 (λN C=>C _ 0 n 1 _ _ _ c rfl (cH _ rfl) ?_ ?_ y)
 ·exact Z.keep (Step.grow λb o e=>bZ _ e) Z.sim.push
 ·exact E.trans (Step.grow λb o e=>bZ _ e))
theorem Rk(h:Rng g F e J M (λa b c q=>Builtin.Range.small a b c=true/\Q (m6 a c (Builtin.Range.rangeSize a b c).toNat) (λN=>True) q) X)(T:∀ env x,foldedSetIterable e env x=pure x):Itr g F e J M Q X:=
 ⟨λA env s I L=>oO (h A env s I) (λx H w=>by
  refine w _ ?_;clear w;rintro r a b c t u v q U D Z E ⟨y,K⟩;subst U;refine wpAny_pyIter_range D y ?_;have Ma:0<=Builtin.Range.rangeSize a b c:=by
   unfold Builtin.Range.rangeSize
   split
   ·split
    ·have:=Int.ediv_nonneg (a:=b-a-1) (b:=c) (jO (lq ‹_›)) (by exact gV (by assumption));exact Ig this
    ·exact jq _
   ·split
    ·by_cases O:c=0
     ·clear D;clear y;subst O;simp
     ·have:=Int.ediv_nonneg (a:=a-b-1) (b:=-c) (jO (lq ‹_›)) (by lia);exact Ig this
    ·exact jq _
  refine(λN P=>P _ _ _ _ q rfl (YB L (a:=a) (c:=c) (n:=(Builtin.Range.rangeSize a b c).toNat)) ?_ ?_ Z.sim.fresh (Z.keep Step.push Z.sim.push) E.aY K)
  ·have Ja:((Builtin.Range.rangeSize a b c).toNat:Int)-((0:Nat):Int)=Builtin.Range.rangeSize a b c:=(oF _).trans (dN Ma)
   have C:a+((0:Nat):Int)*c=a:=by simp
   rw[Ja,C];exact cH _ rfl
  ·exact E.aK) λN N p=>p,T⟩
def ZV(g:G)(F:Blk)(A:Around)(env:Env)(Ja:Nat->List (Option V)->Hp->Prop)(M:Hp)(s:Shared)(n:Nat)(s':Shared):Prop:=
 ∀ c:Prop,(∀ (S:List (Option V)) (u:Hp) (Z:Ja n S u) (q:Inv g F A env S u s') (w:Step (inF A) (ownOf env) M u s s'),c)->c
theorem Ot{X:n9}{D:Expr}(Ja:Nat->List (Option V)->Hp->Prop)(h0:Ja n J M)
  (h:∀ n S M',Ja n S M'->Tst g F D S M' (λb u=>(b=true->Exs g F Ma S u (λf c O=>match f with
   | .next=>∃ m,m<n/\Ja m c O
   | .cont=>∃ m,m<n/\Ja m c O
   | .brk=>Q .next c O
   | .ret v=>Q (.ret v) c O) X)/\(b=false->Q .next S u)) (λx u=>X x S u)):Ex g F (.While D Ma [] pos) J M Q X:=(λA R s I=>by
 refine wpAny_While (codeAny_whileLoop (ZV g F A R Ja M s) ?_ n (λz_ w=>w J M h0 I Step.refl))
 rintro n s' hh;refine hh _ ?_;clear hh;rintro S M' hJ I' K;refine B8 ((h n S M' hJ) A R s' I') (λb y u Z E Y=>?_) λe y p=>uC (p.toS.step K)
 have q:=K.trans (E.mono λz_ h=>h.elim)
 cases b with
 | false=>exact wpAny_execs_nil (λz_ w=>w .next S u .next Z q (Y.2 rfl))
 | true=>
  refine oO ((Y.1 rfl) A R y Z) (λf T p0=>p0 _ ?_) λe T p=>uC (p.step q)
  clear p0;rintro f' c O hf U C L;cases hf with
  | next=>refine a7 L λm P H=>?_;exact⟨m,P,λz_ w=>w c O H U (q.trans C)⟩
  | cont=>refine a7 L λm P H=>?_;exact⟨m,P,λz_ w=>w c O H U (q.trans C)⟩
  | brk=>exact(λz_ w=>w .next c O .next U (q.trans C) L)
  | ret r=>exact(λz_ w=>w (.ret _) c O (.ret r) U (q.trans C) L))
end
noncomputable def zp:List V->Bool
 | [.ref _,_]=>true
 | [.none,_]=>true
 | _=>false
mutual
noncomputable def nz:V->Bool
 | .tup l=>!zp l&&nzL l
 | _=>true
noncomputable def nzL:List V->Bool
 | []=>true
 | x::l=>nz x&&nzL l
end
structure TupsZ(TO:Addr)(h h':Heap):Prop where
 keep:∀ b vs n,b≠TO->h.get? b=some {cls:=.type "tuple",data:=.seq vs n}->h'.get? b=some {cls:=.type "tuple",data:=.seq vs n}
 pair:∀ vs n,h.get? TO=some {cls:=.type "tuple",data:=.seq vs n}->∃ x y,vs=#[x,y]/\(x=.none∨∃ a,x=.ref a/\∀ us m,h.get? a≠some {cls:=.type "tuple",data:=.seq us m})
theorem TupsZ.zp(k:TupsZ TO h h')(e:h.get? TO=some {cls:=.type "tuple",data:=.seq vs n})(r:d9 h vs.toList l):zp l=true:=by
 refine i5 (k.pair vs n e) λx y Ja U=>?_;subst Ja
 refine g6 r.bD λX u Ja rX r1=>?_;clear r;subst Ja
 refine g6 r1.bD λY q Ja w r2=>?_;clear r1;subst Ja
 cases q with
 | cons z l=>refine i5 r2.aj λN N e N=>?_;clear r2;cases e
 | nil=>
  rcases U with rfl | ⟨a,rfl,Ma⟩
  ·cases X with
   | none=>rfl
   | bool b=>cases rX.ofBool
   | int i=>refine d4 rX.ofInt λt e=>?_;cases e
   | str i=>refine d4 rX.ofStr λt e=>?_;cases e
   | tup l=>refine v9 rX.az λa vs n e N=>?_;cases e
   | ref a=>cases rX.aa
  ·cases X with
   | none=>cases rX.aO
   | bool b=>cases rX.ofBool
   | int i=>refine d4 rX.ofInt λt e=>?_;cases e
   | str i=>refine d4 rX.ofStr λt e=>?_;cases e
   | tup l=>refine k9 rX.az λb L m e c N=>?_;cases e;exact(Ma _ _ c).elim
   | ref b=>rfl
theorem Rep.nz(k:TupsZ TO h h'):nz x=true->Rep h v x->Rep h' v x:=
 V.rec (motive_1:=λx=>∀ v,Internal.nz x=true->Rep h v x->Rep h' v x) (motive_2:=λl=>∀ c,nzL l=true->d9 h c l->d9 h' c l) (λN N r=>r) (λN N N r=>r) (λN N N r=>r) (λN N N r=>r)
  (λl y v q r=>by
   refine k9 r.az λa c n e w r=>d5 (dw.mp (show(!Internal.zp l&&nzL l)=true from q)) λu K=>⟨a,c,n,e,k.keep _ _ _ (λJa=>?_) w,y _ K r⟩
   rw[Ja] at w;rw[k.zp w r] at u;cases u) (λN N N r=>r) (λN N r=>r)
  (λx l U hl c q r=>by
   refine g6 r.aj λv L e r1 r2=>d5 (dw.mp (show(Internal.nz x&&nzL l)=true from q)) λu K=>?_
   exact⟨v,L,e,U _ u r1,hl _ K r2⟩) x v
theorem d9.nz(k:TupsZ TO h h')(q:nzL l=true)(r:d9 h vs l):d9 h' vs l:=by
 induction l generalizing vs with
 | nil=>exact r
 | cons x l ih=>
  exact g6 r.aj λv L e r1 r2=>d5 (dw.mp (show(Internal.nz x&&nzL l)=true from q)) λc K=>⟨v,L,e,r1.nz k c,ih K r2⟩
def nzO:AObj->Bool
 | .L l=>nzL l
 | .di l=>nzL (l.map (·.2))
 | .ds l=>nzL (l.map (·.2))
 | .ex _=>true
 | .ob _ _=>true
 | .na l=>nzL (l.map (·.2))
def NZ(M:Hp):Prop:=∀ a o,M a=some o->nzO o=true
def NR(J:List (Option V)):Prop:=∀ (i:Nat) (v:V),J[i]?=some (some v)->nz v=true
theorem NZ.upd(h:NZ M)(c:nzO o=true):NZ (upd M a o):=λb p e=>by
 by_cases q:b=a
 ·rw[q,d6] at e;k_extra"c6";exact c
 ·rw[e9 _ _ q] at e;exact h b p e
def Q4(wr:List Addr)(h h':Heap):Prop:=∀ b o,b∉wr->h.get? b=some o->h'.get? b=some o
section
variable{g:G}{wr:List Addr}
theorem o6.nz{K:Type}[DecidableEq K]{knd:KeyKind prog w K}{l:List (K×V)}(x:o6 knd h a l)(q:nzL (l.map (·.2))=true)(t:TupsZ TO h h')(k:∀ u,h.get? a=some u->h'.get? a=some u):o6 knd h' a l:=by
 k_extra"bm";rintro c d r n;exact v9 d λo L ep y p=>(λz_ A=>A c ⟨o,L,ep,k o y,p⟩ ⟨r.1,r.2.nz t q⟩ n)
theorem ct7(h:nzL l=true):∀ {x:V},x∈l->nz x=true:=by
 induction l with
 | nil=>intro x q;cases q
 | cons y l ih=>
  intro x q;have h:(Internal.nz y&&nzL l)=true:=h;rw[eV] at h;rcases bR.mp q with e | e
  ·rw[e];exact h.1
  ·exact ih h.2 e
theorem s6.nz(x:s6 g h a o)(q:nzO o=true)(t:TupsZ TO h h')(k:∀ ob,h.get? a=some ob->h'.get? a=some ob):s6 g h' a o:=by
 cases o with
 | L l=>refine a7 x λvs hp r=>?_;exact⟨vs,hp.at k,r.nz t q⟩
 | di l=>exact o6.nz x q t k
 | ds l=>exact o6.nz x q t k
 | ex y=>refine k9 x λC oe vs h1 e h2=>?_;exact⟨C,oe,vs,h1,k _ e,h2⟩
 | ob y d=>refine a7 x λC h1 e=>?_;exact⟨C,h1,k _ e⟩
 | na l=>refine f5 x λm h1 h3 h2=>?_;exact⟨m,h1.at λo e=>k o e,h3,λp hp=>by refine a7 (h2 p hp) λu a b=>?_;exact⟨u,a,b.nz t (ct7 q (gC hp))⟩⟩
theorem Sim.nz(x:Sim g M h)(q:NZ M)(e:Q4 wr h h')(t:TupsZ TO h h')(Z:∀ b∈wr,M b=none)(u:∀ b∈wr,g.h₀.get? b=none):Sim g M h':=
 ⟨λb o Y=>e b o (λm=>by rw[u b m] at Y;exact i6 Y) (x.stays b o Y),λa o Ma=>⟨(x.objs a o Ma).1.nz (q a o Ma) t λw c=>e a w (λm=>by rw[Z a m] at Ma;exact i6 Ma) c,(x.objs a o Ma).2⟩⟩
theorem B5.nz(y:B5 env h m x v)(q:∀ V,v=some V->Internal.nz V=true)(t:TupsZ TO h h')(k:∀ y c,env.cells.lookup y=some c->∀ o,h.get? c=some o->∃ o',h'.get? c=some o'/\o'.data=o.data):B5 env h' m x v:=by
 k_extra"cM"
 ·exact .inl ⟨e,λV u=>by refine a7 (y V u) λr E C=>?_;exact⟨r,E,C.nz t (q V u)⟩⟩
 ·exact .inr ⟨e,c,r,hc,Cell.kept hcell λo q=>k x c hc o q,λV u=>by refine a7 (y V u) λr E C=>?_;exact⟨r,E,C.nz t (q V u)⟩⟩
theorem Inv.nz(Ja:Inv g F A env J M s)(H:NZ M)(x:NR J)(e:Q4 wr s.heap h')(t:TupsZ TO s.heap h')(Z:∀ b∈wr,M b=none)(S:∀ b∈wr,¬ ownOf env b)(D:∀ b∈wr,g.h₀.get? b=none)(X:∀ b∈wr,¬ inF A b) :
  Inv g F A env J M {s with heap:=h',toks:=tk}:=by
 refine a7 Ja.loc.ns λm hn hv=>?_
 have hl:∀ b o,ownOf env b->s.heap.get? b=some o->h'.get? b=some o:=λb o Y w=>e b o (λq=>S b q Y) w
 refine⟨Ja.scope,Ja.fn,Ja.glob,Ja.bk,Ja.room,Ja.units,Ja.quiet,Ja.sim.nz H e t Z D,
  ⟨Ja.loc.len,⟨m,hn.at' λo ho=>hl _ o (.inl rfl) ho,λi y v E C=>(hv i y v E C).nz (λV u=>x i V (by rw[C,u])) t λy c hc o ho=>⟨o,hl c o (.inr ⟨y,hc⟩) ho,rfl⟩⟩,Ja.loc.free,λy c hc=>?_,Ja.loc.apart,Ja.loc.other⟩,Ja.base,Ja.nd,?_⟩
 ·k_extra"as"
 ·refine Ja.frs _ ?_;k_extra"a3"
  k_extra"ay"
  rintro L K Q Y P o ho d;exact(λz_ k_=>k_ L K Q Y P o (e L o (λq=>X L q ⟨_,v,ha,hv,Q⟩) ho) d)
theorem Step.nz(x:Step fr own M c s sw)(e:Q4 wr sw.heap h')(u:∀ b∈wr,s.heap.get? b=none):Step fr own M c s {sw with heap:=h',toks:=tk}:=by
 have ne:∀ b o,s.heap.get? b=some o->b∉wr:=λb o hb q=>by rw[u b q] at hb;exact i6 hb
 k_extra"B"
end
section
variable{g:G}
def V0(Q:j5)(Ja:Nat->List (Option V)->Hp->Prop)(i:Nat):j5:=λf J M=>match f with
 | .next=>Ja i J M
 | .cont=>Ja i J M
 | .brk=>Q .next J M
 | .ret v=>Q (.ret v) J M
structure ZipK(a b:Addr)(l m:List V)(J:List (Option V))(M:Hp):Prop where
 la:M a=some (.L l)
 lb:M b=some (.L m)
 refs:∀ x∈l,∃ c o,x=.ref c/\M c=some o
 nz:NZ M
 nr:NR J
def wy(g:G)(F:Blk)(A:Around)(env:Env)(l m:List V)(a b:Addr)(Ja:Nat->List (Option V)->Hp->Prop)(z I C Y Ma:Addr)(M:Hp)(s:Shared)(n:Nat)(s':Shared):Prop:=
 ∀ D:Prop,(∀ (i:Nat) (S:List (Option V)) (q:Hp) (u v:Value) (Z:i+n=min l.length m.length+1) (L:i<=min l.length m.length) (O:Ja i S q) (y:IsZip s'.heap z I C .none) (H:IsPair s'.heap I (.ref Y) (.ref Ma)) (Q:IsPair s'.heap C u v) (R:u=.none∨∃ c,u=.ref c/\V.ref c∈l)
  (K:s'.heap.IsListIter Y a i) (x:s'.heap.IsListIter Ma b i) (E:∀ w∈[z,C,Y,Ma],q w=none) (U:Inv g F A env S q s') (P:Step (inF A) (ownOf env) M q s s'),D)->D
theorem Q5{o p:Obj}(e:some o=some p)(c:o.cls=.type x)(Ma:p.cls=.type y):x=y:=by
 cases e;injection (c.symm.trans Ma)
theorem s6.noTup{h:Heap}(x:s6 g h c o)(A:Array Value)(m:Nat):h.get? c≠some {cls:=.type "tuple",data:=.seq A m}:=λe=>by
 cases o with
 | L l=>obtain⟨D,⟨n,Ma⟩,_⟩:=x;exact absurd (Q5 (Ma.symm.trans e) rfl rfl) (by decide)
 | di l=>refine j7 (o6.has x) λL ep q=>?_;exact absurd (Q5 (q.symm.trans e) rfl rfl) (by decide)
 | ds l=>refine j7 (o6.has x) λL ep q=>?_;exact absurd (Q5 (q.symm.trans e) rfl rfl) (by decide)
 | ex y=>refine I6 x λC Ja D N q O N=>?_;rw[q] at e;cases e;cases O
 | ob y d=>refine a7 x λC N q=>?_;have:=congrArg Obj.cls (d7 (q.symm.trans e));cases this
 | na l=>obtain⟨E,⟨o,L,ep,w,u,-⟩,-⟩:=x;have q:=d7 (w.symm.trans e);subst q;cases u
theorem yP{h:Heap}{A:Addr}(S:Sim g M h)(K:ZipK a b l m J M)(hz:IsZip h z I A .none)(Q:IsPair h A u v)(U:u=.none∨∃ c,u=.ref c/\V.ref c∈l)
  (H:h.IsListIter Y a j) (x:h.IsListIter Ma b k) (e:Q4 [z,A,Y,Ma] h h'):TupsZ A h h':=by
 refine⟨λc X n O y=>e c _ (λq=>?_) y,λX n y=>?_⟩
 ·refine f5 H λo1 E c1 Z=>f5 x λo2 C c2 w=>?_
  k_extra"bU"
  ·rw[q] at y;exact absurd (Q5 (hz.symm.trans y) rfl rfl) (by decide)
  k_extra"bU"
  ·exact O q
  k_extra"bU"
  ·rw[q] at y;exact absurd (Q5 (E.symm.trans y) c1 rfl) (by decide)
  k_extra"bU"
  ·rw[q] at y;exact absurd (Q5 (C.symm.trans y) c2 rfl) (by decide)
  cases q
 ·have D:=Q.symm.trans y
  cases D;refine⟨u,v,rfl,U.imp id λq=>a7 q λc Ja R=>?_⟩
  try clear q;subst Ja
  refine i5 (K.refs _ R) λT o O P=>?_
  cases O;exact⟨c,rfl,λL m=>(S.objs c o P).1.noTup L m⟩
theorem Al(h:nzL l=true):∀ {i:Nat} {x:V},l[i]?=some x->nz x=true:=by
 induction l with
 | nil=>intro i x e;cases e
 | cons y l ih=>
  intro i x e;refine d5 (dw.mp (show(Internal.nz y&&nzL l)=true from h)) λc K=>?_
  cases i with
  | zero=>cases e;exact c
  | succ i=>exact ih K e
theorem bu7(Ma:a<N)(Y:b<N):ZipApart (N+4) (N+2) (N+3) N (N+1) a b:=by
 constructor<;>first | exact dU (mj (by decide)) | exact gk (mj (by decide)) | exact dU (Nat.add_lt_add_left (by decide) N) | exact gk (Nat.add_lt_add_left (by decide) N) | exact dU (cR Ma (eG ..)) | exact gk (cR Ma (eG ..)) | exact dU (cR Y (eG ..)) | exact gk (cR Y (eG ..)) | exact dU Ma | exact gk Ma | exact dU Y | exact gk Y
theorem bG8:∀ c∈[N+4,N+3,N,N+1],N<=c:=λc O=>by simp at O;exact NQ O
theorem Cg(O:c∉[z,q,Y,Ma]):c≠z/\c≠q/\c≠Y/\c≠Ma:=by simpa using O
theorem Xb{X:n9}(hh:A.handled=none)(D:ZipApart z TI I Y Ma a b)
  (f0:∀ c∈[z,I,Y,Ma],s.heap.get? c=none) (L:∀ c∈[z,I,Y,Ma],¬ ownOf env c) (R:∀ c∈[z,I,Y,Ma],g.h₀.get? c=none) (hnf:∀ c∈[z,I,Y,Ma],¬ inF A c)
  (hturn:∀ i x y S M',l[i]?=some x->m[i]?=some y->Ja i S M'->ZipK a b l m S M'/\Asg g F (.Tuple es k tp) (.tup [x,y]) S M' (λJ''=>Exs g F body J'' M' (V0 Q Ja (i+1)) X))
  (hend:∀ S M',Ja (min l.length m.length) S M'->ZipK a b l m S M'/\Q .next S M') (kO:∀ f s',pJ g F A env M s Q f s'->QQ (.ok f) s') (kE:∀ e s',notedBy (model g.prog g.w) A env (λx s'=>cameBackBy (model g.prog g.w) A env (x6 g F A env M s X) x s') e s'->notedBy (model g.prog g.w) A env (λx s'=>QQ (.error x) s') e s') (h₀:wy g F A env l m a b Ja z TI I Y Ma M s n₀ sx) :
  codeAny (model g.prog g.w) A (.forLoop (.Tuple es k tp) (.ref z) body [] env) QQ sx:=by
 refine DY (wy g F A env l m a b Ja z TI I Y Ma M s) ?_ n₀ h₀;k_extra"bX";rintro i S M' u v hn hi hJ' kz kTI kTO ku k1 k2 H I' st';by_cases w:i<min l.length m.length
 ·have P:i<l.length:=cR w (eQ _ _)
  have him:i<m.length:=cR w (gW _ _);refine d5 (hturn i _ _ _ _ (bO P) (bO him) hJ') λK asg=>?_
  refine a7 (I'.sim.objs a _ K.la).1 λxs' pa rl'=>a7 (I'.sim.objs b _ K.lb).1 λys' pb rm'=>?_
  refine a7 (rl'.get (bO P)) λx hx rx=>a7 (rm'.get (bO him)) λy hy ry=>?_
  refine wpAny_pyNext_zip_item D kz kTI kTO k1 k2 (xs:=xs') (ys:=ys') pa.isList pb.isList (by rw[<- cM];exact hx) (by rw[<- cM];exact hy) λh1 p1 p2 p3 p4 p5 p6 kp=>c1 _ _ (wpAny_letOwnedTupleGo_zip p1 λh2 r1 sb=>?_)
  have ex:Q4 [z,I,Y,Ma] s'.heap h2:=λc o O e=>H4 (Cg O) λq1 q2 q3 q4=>sb.extBut c o q1 (kp c o q1 q2 q3 q4 e)
  have tz:TupsZ I s'.heap h2:=yP I'.sim K kz kTO ku k1 k2 ex;have rT:Rep h2 (.ref s'.heap.objs.size) (.tup [l[i],m[i]]):=.tup (sb.extBut _ _ (gk (dJ kz)) p5) (.cons (rx.nz tz (Al (K.nz a _ K.la) (bO P))) (.cons (ry.nz tz (Al (K.nz b _ K.lb) (bO him))) .nil));have t1:IsPair h2 TI (.ref Y) (.ref Ma):=ex TI _ (by simp;exact⟨D.TIz,D.TITO,D.TIi1,D.TIi2⟩) kTI
  have t2:IsPair h2 I x y:=sb.extBut _ _ D.TOz p2;have hu':x=.none∨∃ c,x=.ref c/\V.ref c∈l:=i5 (K.refs _ (fL P)) λc o O N=>by
   rw[O] at rx;exact .inr ⟨c,rx.aa,O▸fL P⟩
  refine asg.run A env _ _ _ _ (I'.nz (tk:=s'.toks) K.nz K.nr ex tz H L R hnf) hh rT λs3 J3 I3 st3 hex=>?_
  have st13:=(st'.nz (tk:=s'.toks) ex f0).trans st3;k_extra"aF"
  clear p4;rintro f' J4 Z hf I4 st4 hq4;have U:=st13.trans st4;have tu:=st3.ak.trans st4.ak;have st:∀ c∈[z,I,Y,Ma],∀ o,h2.get? c=some o->s4.heap.get? c=some o/\Z c=none:=λc O o e=>
   have e3:=st3.exact e (H c O) (L c O) (hnf c O)
   ⟨st4.exact e3 (H c O) (L c O) (hnf c O),st4.new _ _ e3 (H c O)⟩
  have fin:Ja (i+1) J4 Z->wy g F A env l m a b Ja z TI I Y Ma M s (n-1) s4:=λhj=>f5 p3 λo1 e1 c1 d1=>f5 p4 λo2 e2 c2 d2=>
   have q0:=st z (.head _) _ r1;have q2:=st Y (.tail _ (.tail _ (.head _))) _ (sb.extBut _ _ D.i1z e1);have q3:=st Ma (.tail _ (.tail _ (.tail _ (.head _)))) _ (sb.extBut _ _ D.i2z e2)
   λN k_=>k_ (i+1) J4 Z x y (l_3 hn hi) w hj q0.1 (tu _ _ _ t1) (tu _ _ _ t2) hu' ⟨o1,q2.1,c1,d1⟩ ⟨o2,q3.1,c2,d2⟩ (fZ.mpr ⟨q0.2,fZ.mpr ⟨(st I (.tail _ (.head _)) _ t2).2,fZ.mpr ⟨q2.2,fZ.mpr ⟨q3.2,λN h=>(by cases h)⟩⟩⟩⟩) I4 U
  have go:=tn (n-1) s4 (l_4 hn hi);cases hf with
  | next=>exact(go (fin hq4)).1
  | cont=>exact(go (fin hq4)).2
  | brk=>exact tb _ (kO _ _ λN k_=>k_ .next J4 Z .next I4 U hq4)
  | ret r=>exact tr _ _ (kO _ _ λN k_=>k_ (.ret _) J4 Z (.ret r) I4 U hq4)
 ·have hii:i=min l.length m.length:=l_2 hi w
  rw[hii] at hJ' k1 k2;refine d5 (hend _ _ hJ') λK hQ=>a7 (I'.sim.objs a _ K.la).1 λxs' pa rl'=>a7 (I'.sim.objs b _ K.lb).1 λys' pb rm'=>?_
  have hl1:=rl'.length;have hl2:=rm'.length;rw[cB] at hl1 hl2;refine wpAny_pyNext_zip_end hh D kz kTI kTO k1 k2 (xs:=xs') (ys:=ys') pa.isList pb.isList ?_ λh2 kp=>c0 _ (wpAny_execs_nil ?_)
  ·by_cases q:l.length<=m.length
   ·exact .inl (jr (by exact Ob hl1 q))
   ·exact .inr (jr (by exact Kc hl2 q))
  ·have ex:Q4 [z,I,Y,Ma] s'.heap h2:=λc o O e=>H4 (Cg O) λq1 q2 q3 q4=>kp c o q1 q2 q3 q4 e
   exact kO _ _ (λN k_=>k_ .next S M' .next (I'.nz (tk:=s'.toks) K.nz K.nr ex (yP I'.sim K kz kTO ku k1 k2 ex) H L R hnf) (st'.nz (tk:=s'.toks) ex f0) hQ)
def Yi(g:G)(F:Blk)(L:List Expr)(k:Nat)(w:Pos)(Ma:List Stmt)(Q:j5)(X:n9)(J:List (Option V))(vs:List V)(M:Hp):Prop:=
 ∀ c:Prop,(∀ (a b:Addr) (l m:List V) (e:vs=[.ref a,.ref b]) (A:M a=some (.L l)) (D:M b=some (.L m)) (Ja:Nat->List (Option V)->Hp->Prop) (Y:Ja 0 J M)
  (R:∀ i x y S u,l[i]?=some x->m[i]?=some y->Ja i S u->ZipK a b l m S u/\Asg g F (.Tuple L k w) (.tup [x,y]) S u (λq=>Exs g F Ma q u (V0 Q Ja (i+1)) X)) (C:∀ S u,Ja (min l.length m.length) S u->ZipK a b l m S u/\Q .next S u),c)->c
theorem bd4{X:n9}(hq:F.q=true)
  (hk:F.sc.names.lookup u=some .globalImplicit) (hg:g.mg u=none) (hb:g.mb u=some (.type "zip")) (hd:(u==("__debug__" : Str))=false)
  (h:Evs g F [ea,eb] J M (Yi g F es k tp Ma Q X J) (λx q=>X x J q)) :
  Ex g F (.For (.Tuple es k tp) (.Call (.Name u np) [ea,eb] [] cp) Ma [] pos) J M Q X:=(λA R s I=>by
 refine wpAny_For (oU (I.nB hk hd hg hb (d5 (h A R s cp I) λhw hp=>callWith_excType hp (s8 hp (oO hw (λvs H p=>?_) λj j p=>p.toS))))) (λx=>rfl)
 k_extra"3";rintro Vs q rs Z E p_;refine p_ _ ?_;clear p_;rintro a b l m rfl la lb Ja hJ L P;refine g6 rs.two λva vb qa ra rb=>?_;subst qa
 obtain rfl:=ra.aa;obtain rfl:=rb.aa;obtain⟨xs,⟨na,oa⟩,rl⟩:=(Z.sim.objs a _ la).1;obtain⟨ys,⟨nb,ob⟩,rm⟩:=(Z.sim.objs b _ lb).1;refine call_zip_2 (xs:=xs) (ys:=ys) ⟨_,oa,rfl,_,rfl⟩ ⟨_,ob,rfl,_,rfl⟩ λy hz hTI hTO hi1 hi2 hsz keep=>?_
 generalize hN:H.heap.objs.size=N at *;have lt:∀ {c o},H.heap.get? c=some o->c<N:=λe=>hN▸dJ e
 have D:=bu7 (lt oa) (lt ob);have fresh:∀ c∈[N+4,N+3,N,N+1],H.heap.get? c=none:=λc O=>I9 (hN▸bG8 c O)
 have w:∀ c∈[N+4,N+3,N,N+1],s.heap.get? c=none:=λc O=>E.nix (fresh c O)
 have T:∀ c∈[N+4,N+3,N,N+1],q c=none:=λc O=>Z.sim.no (fresh c O)
 have S:∀ c∈[N+4,N+3,N,N+1],¬ ownOf R c:=λc O=>I.aW (w c O)
 have K:∀ c∈[N+4,N+3,N,N+1],g.h₀.get? c=none:=λc O=>I.aG (w c O)
 have hnf:∀ c∈[N+4,N+3,N,N+1],¬ inF A c:=λc O=>I.aR (w c O)
 have Y:Step (inF A) f7 q q H {H with heap:=y}:=Step.grow (tk:=H.toks) keep
 have U:Inv g F A R J q {H with heap:=y}:=Z.keep Y (Z.sim.grow keep)
 have C:Step (inF A) f7 M q s {H with heap:=y}:=E.trans Y
 clear Y;refine wpAny_pyIter_zip hz ?_;exact Xb (I.quiet hq) D w S K hnf L P (λj j p=>p) (λj j p=>p) (n₀:=min l.length m.length+1)
  (λj k_=>k_ 0 J q .none .none (jP _) (cP _) hJ hz hTI hTO (.inl rfl) hi1 hi2 T U (C.mono λj h=>h.elim)))
end
noncomputable def rl(scope sc:Scope):Scope:=
 {scope with names:=scope.names.map fun(n,k)=>if (k==.free&&sc.kind==.function&&sc.names.lookup n==some .cell) then(n,.cell) else(n,k)}
noncomputable def w6(scope:Scope):List Str:=(scope.names.filter (·.2==.free)).map (·.1)
def E6(F:Blk)(scope:Scope)(x:Str)(c:List Nat):Bool:=
 scope.names.all (λy=>y.2 != .cell)&&(scope.kind==.function)&&(scope.names.all λy=>y.2 != .local||scope.names.lookup y.1==some .local)&&(scope.names.lookup x==some .local) &&
 decide (x::w6 scope).Nodup&&((w6 scope).all λy=>F.sc.names.lookup y==some .cell&&scope.names.lookup y==some .free)&&decide (c.map (λj=>F.vars[j]?)=(w6 scope).map some)
def C4(F:Blk)(scope:Scope)(x:Str):Blk:=⟨rl scope F.sc,x::w6 scope,F.d,F.q⟩
noncomputable def s7(J:List (Option V))(c:List Nat):List (Option V):=c.map λj=>(J[j]?).join
noncomputable def B6(cells:List (Str×Addr)):List (Str×NameKind)->List (Str×Addr)->List (Str×Addr)
 | [],acc=>acc
 | (n,k)::r,acc=>B6 cells r (if k==.free then(n,(cells.lookup n).getD 0)::acc else acc)
theorem Uj(h:∀ y∈scope.names,y.2=.free->(env.cells.lookup y.1).isSome=true):closureFor scope env=pure (B6 env.cells scope.names []):=by
 unfold closureFor;have:∀ (names:List (Str×NameKind)) (acc:List (Str×Addr)),(∀ y∈names,y.2=.free->(env.cells.lookup y.1).isSome=true)->
   (forIn names acc λx cs=>if (x.2==NameKind.free)=true then(do let c <- cellOf env x.1;pure (ForInStep.yield ((x.1,c)::cs))) else pure (ForInStep.yield cs))=(pure (B6 env.cells names acc):Sem (List (Str×Addr))):=by
  intro names;induction names with
  | nil=>intro acc _;rfl
  | cons y r ih=>
   intro acc hy;obtain⟨n,k⟩:=y;rw[List.forIn_cons];show _=(pure (B6 env.cells r (if (k==NameKind.free)=true then(n,(env.cells.lookup n).getD 0)::acc else acc)):Sem _)
   cases hk:k==NameKind.free with
   | false=>
    simp only[hk,Bool.false_eq_true,if_false,pure_bind]
    exact ih acc λy hy'=>hy y (dX _ hy')
   | true=>
    obtain⟨c,hc⟩:=fO.mp (hy (n,k) fX (by simpa using hk))
    have hcell:cellOf env n=pure c:=by unfold cellOf;rw[hc]
    simp only[hk,if_true,hcell,pure_bind,hc,Option.getD_some]
    exact ih _ λy hy'=>hy y (dX _ hy')
 simp only[bind_pure]
 exact(this scope.names [] h)
theorem Ug:∀ {acc:List (Str×Addr)},(∀ y T,acc.lookup y=some T->cells.lookup y=some T)->(∀ y∈names,y.2=.free->(cells.lookup y.1).isSome=true)->
  (B6 cells names acc).lookup x=some c->cells.lookup x=some c:=by
 induction names with
 | nil=>intro acc Ma q h;exact Ma x c h
 | cons p r u=>
  obtain⟨n,k⟩:=p;intro acc Ma q h;refine u (acc:=if k==.free then(n,(cells.lookup n).getD 0)::acc else acc) (λy T e=>?_) (λy L=>q y (dX _ L)) h
  by_cases hk:(k==.free)=true
  ·rw[if_pos hk,eU] at e
   cases L:y==n with
   | true=>
    rw[L] at e;refine d4 (fO.mp (q (n,k) fX (beq_iff_eq.mp hk))) λc2 Q=>?_
    rw[Q] at e
    k_extra"c6"
    rw[beq_iff_eq.mp L,Q];rfl
   | false=>rw[L] at e;exact Ma y T e
  ·rw[if_neg hk] at e;exact Ma y T e
theorem cs7:∀ {acc:List (Str×Addr)},((acc.lookup x).isSome=true∨∃ y∈names,y.1=x/\y.2=.free)->((B6 cells names acc).lookup x).isSome=true:=by
 induction names with
 | nil=>
  intro acc h;rcases h with h | ⟨y,hy,_⟩
  ·exact h
  ·cases hy
 | cons p r u=>
  obtain⟨n,k⟩:=p;intro acc h;refine u (acc:=if k==.free then(n,(cells.lookup n).getD 0)::acc else acc) ?_
  rcases h with h | ⟨y,hy,E,C⟩
  ·left
   by_cases hk:(k==.free)=true
   ·rw[if_pos hk,eU]
    cases x==n with
    | true=>rfl
    | false=>exact h
   ·rw[if_neg hk];exact h
  ·clear u;rcases bR.mp hy with rfl | hy
   ·left
    have c:=E;have q:=C;subst c q;rw[if_pos (beq_self_eq_true _),eU,beq_self_eq_true];rfl
   ·exact .inr ⟨y,hy,E,C⟩
theorem br9{scope:Scope}{names:List (Str×NameKind)}:names.lookup x=some k->
  (names.map fun(n,k)=>if (k==NameKind.free&&sc.kind==.function&&sc.names.lookup n==some .cell) then(n,NameKind.cell) else(n,k)).lookup x =
   some (if (k==NameKind.free&&sc.kind==.function&&sc.names.lookup x==some .cell) then .cell else k):=by
 induction names with
 | nil=>intro h;cases h
 | cons p r u=>
  obtain⟨n,c⟩:=p;intro h;rw[eU] at h;show jZ x ((if (c==NameKind.free&&sc.kind==.function&&sc.names.lookup n==some .cell)=true then(n,NameKind.cell) else(n,c))::_)=_
  have E:∀ (v:NameKind) (l:List (Str×NameKind)),jZ x ((n,v)::l)=if (x==n)=true then some v else jZ x l:=λv l=>by rw[eU];cases x==n<;>rfl
  have q:∀ (b:Bool) (l:List (Str×NameKind)),jZ x ((if b=true then(n,NameKind.cell) else(n,c))::l)=if (x==n)=true then some (if b=true then .cell else c) else jZ x l:=λb l=>by
   cases b
   ·exact E _ _
   ·exact E _ _
  rw[q];cases U:x==n with
  | true=>
   rw[U] at h;replace h:=d7 h;subst h;rw[beq_iff_eq.mp U];rfl
  | false=>
   rw[U] at h;exact u h
def pG(g:G)(F:Blk)(q:List Expr)(J:List (Option V))(M:Hp)(Q:Bool->Hp->Prop):Prop:=
 ∀ A R s (E:Value->Shared->Prop),Inv g F A R J M s->wpAny (model g.prog g.w) A (forIn q true λc r=>if r=true then do let ok <- isTrue c R (eval c R);pure (ForInStep.yield ok) else pure (ForInStep.yield r)) (H8 g F A R J M s Q) E s
def noX:Str->Hp->Prop:=λN N=>False
theorem ZC(h:Q true M):pG g F [] J M Q:=(λA R s E I=>wpAny_tests_nil (λz_ c=>c M I Step.refl h))
theorem WK(h:Tst g F c J M Q noX):pG g F [c] J M Q:=(λA R s E I=>wpAny_tests_one (oO (h A R s I) (λN N p=>p) λN N p=>p.no))
section
variable{g:G}
def CK(St:Nat->Heap->Prop)(D It:Addr)(i:Nat)(acc:List V)(M:Hp)(h:Heap):Prop:=
 ∀ q:Prop,(∀ (u:Array Value) (E:St i h) (U:h.PlainList D u) (x:d9 h u.toList acc) (y:M It=none) (w:M D=none),q)->q
def Hf(g:G)(A:Around)(L:List V)(Ja:List V->List V->Hp->Prop)(St:Nat->Heap->Prop)(D C It:Addr)(M:Hp)(s:Shared)(n:Nat)(s':Shared):Prop:=
 ∀ q:Prop,(∀ (i:Nat) (acc:List V) (M':Hp) (y:Str->Option Value) (Z:i+n=L.length+1) (S:i<=L.length) (H:acc.length<=i) (I:Ja (L.drop i) acc M') (E:CK St D It i acc M' s'.heap) (Ma:s'.heap.Ns C y)
   (u:M' C=none) (w:Sim g M' s'.heap) (x:Step (inF A) f7 M M' s s'),q)->q
section
variable{L:List V}{K:Hp->Prop}{D It c:Addr}{i j:Nat}{acc:List V}{h:Heap}
theorem CK.but(k:CK St D It i acc M h)(W:IterOK g A It L K St)(e:Heap.ExtBut c h h')(t:l6 h h')(x:It≠c)(T:D≠c):CK St D It i acc M h':=by
 k_extra"cI";exact(λz_ w=>w ys (W.frame _ _ _ a (λo u=>e It o x u) t) ⟨n,e D _ T b⟩ (q.mono t) d f)
theorem CK.on(k:CK St D It i acc M h)(e:Heap.ExtBut It h h')(t:l6 h h')(n:D≠It)(u:St j h'):CK St D It j acc M h':=by
 refine k _ ?_;clear k;rintro y a ⟨x,b⟩ q d f;exact(λz_ w=>w y u ⟨x,e D _ n b⟩ (q.mono t) d f)
theorem CK.step{s s':Shared}(k:CK St D It i acc M s.heap)(W:IterOK g A It L K St)(st:Step (inF A) f7 M M' s s')(x:¬ inF A It)(T:¬ inF A D):CK St D It i acc M' s'.heap:=by
 k_extra"cI";exact i5 (W.obj _ _ a) λo N u N=>(λN w=>w ys (W.frame _ _ _ a (λU O=>by rw[u] at O;replace O:=d7 O;subst O;exact st.thing d u x) st.ak) ⟨n,st.thing f b T⟩ (q.mono st.ak) (st.new It _ u d) (st.new D _ b f))
end
theorem Bk{E:List Nat}(ok:E6 F scope x E=true):(∀ y∈scope.names,y.2≠.cell)/\scope.kind=.function/\(∀ y∈scope.names,y.2≠.local∨scope.names.lookup y.1=some .local)/\scope.names.lookup x=some .local/\(x::w6 scope).Nodup/\(∀ y∈w6 scope,F.sc.names.lookup y=some .cell/\scope.names.lookup y=some .free)/\E.map (λj=>F.vars[j]?)=(w6 scope).map some:=by
 unfold E6 at ok;simp only[eV,decide_eq_true_eq,cX,iu,beq_iff_eq,bne_iff_ne] at ok
 obtain⟨⟨⟨⟨⟨⟨q,u⟩,w⟩,U⟩,Q⟩,P⟩,C⟩:=ok;exact⟨q,u,w,U,Q,P,C⟩
theorem zB(ok:E6 F scope x R=true)(I:Inv g F A env J M s):∀ y∈scope.names,y.2=.free->(env.cells.lookup y.1).isSome=true:=by
 refine zW (Bk ok) λH Ma T hx hnd P Ja=>a7 I.loc.ns λU Q C=>?_
 have q:∀ y∈w6 scope,∃ (k j:Nat) (c:Addr) (r:Option Value),R[k]?=some j/\(w6 scope)[k]?=some y/\F.vars[j]?=some y/\env.cells.lookup y=some c:=λy E=>by
  obtain⟨k,S⟩:=List.getElem?_of_mem E;have Z:(R.map (λj=>F.vars[j]?))[k]?=some (some y):=by rw[Ja,bW,S];rfl
  rw[bW] at Z;refine a7 (cL.mp Z) λj Y hj'=>?_
  k_extra"b6"
  rcases C j y _ hj' (bO hlt) with ⟨hkd,_⟩ | ⟨_,c,r,O,_⟩
  ·have:=(P y E).1
   k_extra"aO"
   cases hkd
  ·exact⟨k,j,c,r,Y,S,hj',O⟩
 have u:∀ y∈scope.names,y.2=.free->y.1∈w6 scope:=λy E e=>cD.mpr ⟨y,gj.mpr ⟨E,by simp[e]⟩,rfl⟩
 have w:∀ y∈scope.names,y.2=.free->(env.cells.lookup y.1).isSome=true:=λy E e=>by
  refine X5 (q y.1 (u y E e)) λN N c N N N N O=>?_
  rw[O];rfl
 exact w
theorem XM(ok:E6 F scope x S=true)(I:Inv g F A env J M s)(sm:Sim g M' s'.heap)(st':Step (inF A) f7 M M' s s')(hns':s'.heap.Ns C m')(hmx:m' x=some rv)(hrv:Rep s'.heap rv v)(hMC:M' C=none)(Z:s.heap.get? C=none):Inv g (C4 F scope x) A (compEnvC scope (B6 env.cells scope.names []) C env) (some v::s7 J S) M' s':=by
 k_extra"av"
 have E:∀ y c,(B6 env.cells scope.names []).lookup y=some c->env.cells.lookup y=some c:=λy c e=>Ug (λN N e=>by exact i6 e) (zB ok I) e
 have hkx:(compEnvC scope (B6 env.cells scope.names []) C env).kindOf x=some .local:=by
  k_extra"bA"
 have hky:∀ y∈w6 scope,(compEnvC scope (B6 env.cells scope.names []) C env).kindOf y=some .cell:=λy H=>by
  show((relabel scope env).names).lookup y=_;have e1:=br9 (scope:=scope) (sc:=env.scope) ((hfr y H).2);have e2:(NameKind.free==NameKind.free&&env.scope.kind==.function&&env.scope.names.lookup y==some .cell)=true:=by
   rw[I.fn,I.scope,(hfr y H).1];rfl
  rw[e2] at e1;exact e1
 have Ma:∀ b,ownOf (compEnvC scope (B6 env.cells scope.names []) C env) b->b=C∨∃ y,env.cells.lookup y=some b:=λb Y=>by
  rcases Y with rfl | ⟨y,H⟩
  ·exact .inl rfl
  ·exact .inr ⟨y,E y b H⟩
 have T:=I.keep st' sm;refine a7 T.loc.ns λmE hnE hvE=>⟨?_,hkind,I.glob,I.bk,I.room,I.units,I.quiet,sm,⟨?_,⟨m',hns',λi y u H hu=>?_⟩,λb Y=>?_,λy c O=>T.loc.live y c (E y c O),λy z c h1 h2=>T.loc.apart y z c (E y c h1) (E z c h2),λy c O q=>?_⟩,λb Y=>?_,hnd,by refine T.frs _ ?_;rintro U l ha hf all;exact(λN k_=>k_ U l ha hf all)⟩
 ·show relabel scope env=rl scope F.sc
  rw[<- I.scope];rfl
 ·show(some v::s7 J S).length=(x::w6 scope).length
  have:S.length=(w6 scope).length:=by have:=congrArg List.length hjs;simpa using this
  simp[s7,this]
 ·cases i with
  | zero=>
   simp[C4] at H hu
   subst H hu;exact .inl ⟨hkx,λW P=>by replace P:=d7 P;subst P;exact⟨rv,hmx,hrv⟩⟩
  | succ k=>
   have hy':(w6 scope)[k]?=some y:=by simpa[C4] using H
   have R:(s7 J S)[k]?=some u:=by simpa using hu
   obtain⟨j,hj,hj'⟩:∃ j,S[k]?=some j/\F.vars[j]?=some y:=by
    have h1:(S.map (λj=>F.vars[j]?))[k]?=some (some y):=by rw[hjs,bW,hy'];rfl
    rw[bW] at h1;exact cL.mp h1
   have hum:u=(J[j]?).join:=by
    unfold s7 at R;rw[bW,hj] at R;exact(d7 R).symm
   have w:=cA hy';k_extra"b6"
   have Q:=bO hlt;rcases hvE j y _ hj' Q with ⟨hkd,_⟩ | ⟨_,c,r,O,hcl,hval⟩
   ·have:=(hfr y w).1
    k_extra"aO"
    cases hkd
   ·obtain⟨c',Ja⟩:=fO.mp (cs7 (cells:=env.cells) (x:=y) (names:=scope.names) (acc:=[]) (.inr (by
     refine a7 (cD.mp w) λz hz hz'=>d5 (gj.mp hz) λhz1 hz2=>?_
     exact⟨z,hz1,hz',by simpa using hz2⟩)))
    have:c'=c:=by have:=E y c' Ja;rw[O] at this;exact(d7 this).symm
    subst this;refine .inr ⟨hky y w,c',r,Ja,hcl,λW P=>hval W ?_⟩
    rw[hum,Q] at P
    simpa using P
 ·rcases Ma b Y with rfl | ⟨y,H⟩
  ·exact hMC
  ·exact T.loc.free b (.inr ⟨y,H⟩)
 ·have hyc:=E y c O
  refine i5 (I.loc.live y c hyc) λN o h0 N=>?_
  have q':c=C:=q;rw[q',Z] at h0;exact i6 h0
 ·rcases Ma b Y with rfl | ⟨y,H⟩
  ·exact I.aG (Z)
  ·exact I.base b (.inr ⟨y,H⟩)
theorem bY4{w:World}{R:Result->Shared->Prop}{elt q iter:Expr}{u:List Expr}{Ma acc:Value}(I:Nat->Shared->Prop)
  (Ja:∀ n s,I n s->∀ (T:Shared->Prop) (C:Option Value->Shared->Prop) (B:Bool->Shared->Prop) (E:Value->Shared->Prop),(∀ m s,m<n->I m s->T s)->(∀ s,R (.ok .next) s->C none s)->
   (∀ v s,wpAny (model prog w) A (assign q env v) (λN y=>wpAny (model prog w) A (forIn u true λc r=>if r=true then do let ok <- isTrue c env (eval c env);pure (ForInStep.yield ok) else pure (ForInStep.yield r)) B E y) E s->C (some v) s)->(∀ s,T s->B false s)->
   (∀ s,wpAny (model prog w) A (eval elt env) (λx H=>wpAny (model prog w) A (call (.builtin "list.append") [acc,x]) (λN=>T) E H) E s->B true s)->wpAny (model prog w) A (pyNext Ma) C E s)
  (n:Nat) (h:I n s) (P:∀ v,letOwnedTupleGo q Ma v=pure ()):codeAny (model prog w) A (.compLoop (.ListComp elt [⟨q,iter,u,0⟩] scope pos) 0 Ma acc env) R s:=
 codeAny_compLoop_tests I (λn s O=>Ja n s O (λs=>∃ m,m<n/\I m s) _ (λb s=>if b=true then _ else _) _ (λm N Z S=>⟨m,Z,S⟩) (λN h=>h) (λN N h=>h) (λN h=>h) λN h=>h) n h P
theorem Wl(ok:E6 F scope x js=true){P:List V->Hp->Prop}{L:List V}{K:Hp->Prop}{Ja:List V->List V->Hp->Prop}(hLs:L.length<=sizeLine)
  (hturn:∀ v l acc M',Ja (v::l) acc M'->K M'/\pG g (C4 F scope x) ifs (some v::s7 J js) M' (λb M2=>(b=true->Ev g (C4 F scope x) elt (some v::s7 J js) M2 (λy M₃=>Ja l (acc++[y]) M₃) noX)/\(b=false->Ja l acc M2)))
  (hend:∀ acc M',Ja [] acc M'->K M'/\P acc M') {A:Around} {env:Env} {ce:Env} {s:Shared} {D:Addr} {C:Addr} {It:Addr} {QQ:Except Value Flow->Shared->Prop} (I:Inv g F A env J M s) (W:IterOK g A It L K St)
  (Q:D≠It) (O:It≠C) (hDC:D≠C) (fI:s.heap.get? It=none) (fD:s.heap.get? D=none) (fC:s.heap.get? C=none) (hce:compEnvC scope (B6 env.cells scope.names []) C env=ce)
  (fin:∀ acc M' s',P acc M'->M' D=none->Inv g F A env J (upd M' D (.L acc)) s'->Step (inF A) f7 M (upd M' D (.L acc)) s s'->(∃ m,s'.heap.Ns C m)->upd M' D (.L acc) C=none->QQ (.ok .next) s') {n₀:Nat} {sx:Shared} (h₀:Hf g A L Ja St D C It M s n₀ sx) :
  codeAny (model g.prog g.w) A (.compLoop (.ListComp elt [⟨.Name x px,iter,ifs,0⟩] scope pos) 0 (.ref It) (.ref D) ce) QQ sx:=by
 k_extra"av"
 have hkx:ce.kindOf x=some .local:=by
  rw[<- hce];k_extra"bA"
 have hsc:(ce.scope.kind==.class||(ce.scope.kind==.module&&ce.locals != ce.globals))=false:=by rw[<- hce];show(scope.kind==.class||(scope.kind==.module&&_))=false;rw[hkind];rfl
 have Ma:ce.locals=C:=by rw[<- hce];rfl
 refine bY4 (Hf g A L Ja St D C It M s) ?_ n₀ h₀ λN=>rfl
 intro n s' hj T C' B E tn c0 c1 b0 b1;refine hj _ ?_;clear hj;rintro i acc M' m' hn hi u S ck hC' H sm' st';refine(id ck) _ ?_;rintro ys hst' hD' hR' hMI' hMD';refine i5 (W.obj i _ hst') λoI vI hoI hdI=>?_
 by_cases w:i<L.length
 ·have hd:=gQ w
  rw[hd] at S;refine d5 (hturn _ _ _ _ S) λhK hcond=>W.item i L[i] M' s' _ _ (bO w) hst' sm' hK λv h' tk hr hst1 R=>c1 _ _ ?_
  have tu1:=O3 hoI hdI R;have hC1:=hC'.at' λo ho=>R C o (Ne.symm O) ho
  refine wpAny_assign_Name (wpAny_storeName_local (env:=ce) hkx (Ma▸hC1) (λh2 hn2 U=>?_) hsc)
  rw[Ma] at hn2 U;have tu2:=O6 hC1 U;have stp2:=(st'.but (tk:=tk) R fI).but (tk:=tk+1) U.extBut fC;have IC:=XM ok (F:=F) (C:=C) (v:=L[i]) I ((sm'.but R tu1 hMI' (I.aG fI)).but U.extBut tu2 H (I.aG fC)) stp2 hn2 (if_pos rfl) (hr.mono tu2) H fC;rw[hce] at IC;refine oO (hcond A _ _ _ IC) (λokb s3 p3=>p3 _ ?_) λN N p=>p
  clear p3;rintro M3 I3 st3' hb;have k3:=((ck.on R tu1 Q hst1).but W U.extBut tu2 O hDC).step W st3' (I.aR fI) (I.aR fD);have go:=fun{s}=>tn (n-1) s (l_4 hn hi)
  cases okb with
  | false=>exact a7 I3.loc.ns λm3 hm3 N=>b0 _ (go λN k_=>k_ (i+1) acc M3 m3 (l_3 hn hi) w (mJ u) (hb.2 rfl) k3 (Ma▸hm3) (I3.loc.free C (.inl Ma.symm)) I3.sim (stp2.trans st3'))
  | true=>
   refine b1 _ (pgo ((hb.1 rfl) A _ s3 I3) (λyv s4 Y M4 ry I4 st4 hJ4=>?_) λN N p=>p.no)
   have k4:=k3.step W st4 (I.aR fI) (I.aR fD);refine k4 _ ?_;clear k4;rintro ys hst4 ⟨nD,hD4⟩ hR4 hMI4 hMD4;refine a7 I4.loc.ns λm4 hm4 N=>?_
   rw[Ma] at hm4;have hys:ys.size<=sizeLine:=by have:=hR4.length;rw[cB] at this;exact l_5 hLs u w this
   refine wpAny_list_append_plain (hsz:=hys) ⟨nD,hD4⟩ λh5 hl5 Z=>?_
   have tu5:l6 s4.heap h5:=λb vs n e=>(Z.2 b (λq=>by rw[q,hD4] at e;simp at e)).trans e
   refine go (λN k_=>k_ (i+1) (acc++[Y]) M4 m4 (l_3 hn hi) (w) (by simp;exact u) hJ4 (λN k_=>k_ (ys.push yv) (W.frame _ _ _ hst4 (λo ho=>Z.extBut It o (Ne.symm Q) ho) tu5) hl5 ?_ hMI4 hMD4) (hm4.at' (λo ho=>Z.extBut C o (Ne.symm hDC) ho)) (I4.loc.free C (.inl Ma.symm)) (I4.sim.but Z.extBut tu5 hMD4 (I.aG fD)) (((stp2.trans st3').trans st4).but (tk:=s4.toks) Z.extBut fD))
   rw[jk];exact(hR4.mono tu5).append (.cons (ry.mono tu5) .nil)
 ·have hii:i=L.length:=l_2 hi w
  rw[hii,lH] at S;refine W.done M' s' _ _ (hii▸hst') sm' (hend _ _ S).1 λh' tk R=>c0 _ ?_
  have tu1:=O3 hoI hdI R;have sim1:=sm'.but R tu1 hMI' (I.aG fI);have stp1:Step (inF A) f7 M M' s {s' with heap:=h',toks:=tk}:=st'.but R fI
  refine d4 hD' λnD hDo=>?_
  have stpD:=stp1.put (a:=D) (o:=.L acc) fD;exact fin acc M' _ (hend _ _ S).2 hMD' (I.keep stpD (sim1.put ⟨ys,⟨nD,R _ _ Q hDo⟩,hR'.mono tu1⟩ (I.aG fD))) stpD ⟨m',hC'.at' λo ho=>R C o (Ne.symm O) ho⟩ (by rw[e9 _ _ (Ne.symm hDC)];exact H)
theorem Bu{js:List Nat}(ok:E6 F scope x js=true)(hq:F.q=true)(P:List V->Hp->Prop)
  (h:Itr g F iter J M (λL K sv=>∃ Ja:List V->List V->Hp->Prop,L.length<=sizeLine/\Ja L [] sv/\
   (∀ v l acc M',Ja (v::l) acc M'->K M'/\pG g (C4 F scope x) ifs (some v::s7 J js) M' (λb M2=>(b=true->Ev g (C4 F scope x) elt (some v::s7 J js) M2 (λy M3=>Ja l (acc++[y]) M3) noX)/\(b=false->Ja l acc M2)))/\
   ∀ acc M',Ja [] acc M'->K M'/\P acc M') X)
  {A:Around} {env:Env} {s:Shared} {E:Value->Shared->Prop} {use:Option (Value->Sem Unit)} {QV:Value->Shared->Prop} (I:Inv g F A env J M s) (hE:∀ e s',j6 g F A env J M s X e s'->E e s')
  (fin:∀ D C acc M' s',P acc M'->M' D=none->Inv g F A env J (upd M' D (.L acc)) s'->Step (inF A) f7 M (upd M' D (.L acc)) s s'->(∃ m,s'.heap.Ns C m)->s.heap.get? C=none->upd M' D (.L acc) C=none->
   compPost (model g.prog g.w) A E use QV (.ref D) C (.ok .next) s') :
  wpAny (model g.prog g.w) A (comprehension (.ListComp elt [⟨.Name x px,iter,ifs,0⟩] scope pos) scope env pos' (newList []) false (eval iter env) use) QV E s:=by
 k_extra"av"
 have hh:=I.quiet hq;have hsome:=zB ok I;refine wpAny_comprehension_free (g:=⟨.Name x px,iter,ifs,0⟩) (gs:=[]) rfl (λv=>h.fold env v) (Uj hsome) hkind (λy hy e=>(hloc y hy).resolve_left λq=>q e) (oO (h.run A env s I hh) (λxv sw Ma=>oO Ma (λit T Y=>Y _ ?_) λe s' p=>hE e s' p) λe s' p=>hE e s' p)
 clear Y;rintro It L K St sv rfl W hst hItf hMI U O ⟨Ja,hLs,hJ,hturn,hend⟩;refine oV (wpAny_newFunctionEnv hcell (by intro y hy;simp at hy) (λMa H u=>?_) hkind)
 dsimp only at H u ⊢
 generalize hH2:T.heap.push {cls:=.type "list",dict:=none,data:=.seq ([]:List Value).toArray}=H2 at H u ⊢;have Z:H2.objs.size=T.heap.objs.size+1:=by rw[<- hH2,ni]
 generalize hDd:T.heap.objs.size=D at Z ⊢;generalize hCc:H2.objs.size=C at H u Z ⊢;have hDC:D≠C:=by lia
 have Q:∀ b o,T.heap.get? b=some o->Ma.get? b=some o:=λb o e=>by
  exact u.extBut b o (dU (by rw[Z,<- hDd];exact lw (dJ e))) (bZ _ (hH2▸bZ _ e))
 have fresh:∀ a,D<=a->T.heap.get? a=none:=λa ha=>I9 (by rw[hDd];exact ha)
 have hacc:Ma.PlainList D #[]:=⟨0,u.extBut _ _ hDC (bZ _ (by rw[<- hH2,<- hDd];exact cH _ rfl))⟩
 have st3:Step (inF A) f7 sv sv T {T with heap:=Ma,toks:=T.toks+([]:List (Str×Value)).length}:=Step.grow Q
 have f0:∀ a,D<=a->s.heap.get? a=none:=λa ha=>O.nix (fresh a ha)
 have w:∀ a,D<=a->sv a=none:=λa ha=>U.sim.no (fresh a ha)
 have R:=W.obj 0 _ hst;have hItD:It≠D:=λq=>by refine i5 R λo N e N=>?_;rw[q,fresh D (cO _)] at e;exact i6 e
 have hItC:It≠C:=λq=>by refine i5 R λo N e N=>?_;rw[q,fresh C (l_1 Z)] at e;exact i6 e
 have S:=W.frame _ _ _ hst (λo e=>Q _ o e) (λb N N e=>Q b _ e)
 have loop:=Wl (elt:=elt) (iter:=iter) (px:=px) (pos:=pos) ok hLs hturn hend (QQ:=compPost (model g.prog g.w) A E use QV (.ref D) C) I W (Ne.symm hItD) hItC hDC hItf (f0 D (cO _)) (f0 C (l_1 Z)) rfl
  (λacc M' s' p1 p2 p3 p4 p5 p6=>fin D C acc M' s' p1 p2 p3 p4 p5 (f0 C (l_1 Z)) p6) (n₀:=L.length+1) (sx:={T with heap:=Ma,toks:=T.toks+([]:List (Str×Value)).length})
  (λN k_=>k_ 0 [] sv _ (by lia) (cP _) (cO _) (by simpa using hJ) (λN k_=>k_ (#[]) S hacc .nil hMI (w D (cO _))) H (w C (l_1 Z)) (U.sim.grow Q) (O.trans st3))
 exact codeAny_compStart_list loop (W.self 0 _ _ _ S loop)
theorem Gf(js:List Nat)(ok:E6 F scope x js=true)(T:F.q=true)
  (h:Itr g F iter J M (λL K sv=>∃ Ja:List V->List V->Hp->Prop,L.length<=sizeLine/\Ja L [] sv/\
   (∀ v l acc M',Ja (v::l) acc M'->K M'/\pG g (C4 F scope x) ifs (some v::s7 J js) M' (λb M2=>(b=true->Ev g (C4 F scope x) elt (some v::s7 J js) M2 (λy M3=>Ja l (acc++[y]) M3) noX)/\(b=false->Ja l acc M2)))/\
   ∀ acc M',Ja [] acc M'->K M'/\∀ a,M' a=none->Q (.ref a) (upd M' a (.L acc))) X) :
  Ev g F (.ListComp elt [⟨.Name x px,iter,ifs,0⟩] scope pos) J M Q X:=(λA R s I=>by
 rw[eval_ListComp];refine Bu ok T (λacc M'=>∀ a,M' a=none->Q (.ref a) (upd M' a (.L acc))) h I (λN N p=>p) λD C acc M' H S hD Ma w O q u=>d4 O λm E=>⟨m,E,λh' P=>?_⟩
 exact(λN U=>U (.ref D) _ (.ref D) (Ma.but (tk:=H.toks) P.extBut (O6 E P) u (I.aW q) (I.aG q) (I.aR q)) (w.but (tk:=H.toks) P.extBut q) (S D hD)))
theorem bb4{elt:Expr}{u:List Comprehension}{scope:Scope}{q w:Pos}{y:Str}{line:Nat}{env:Env} :
  ∃ b,swapsWith (.ListComp elt u scope q) (some (.Name y w)) line env=pure b:=⟨_,rfl⟩
end
section
variable{g:G}{Q:V->Hp->Prop}
theorem cz3(hk:F.sc.names.lookup x=some .globalImplicit)(hg:g.mg x=none)(hb:g.mb x=some (.builtin "isinstance"))
  (D:F.sc.names.lookup t=some .globalImplicit) (w:g.mg t=none) (c:g.mb t=some (.type C))
  (h:Ev g F e J M (λv q=>pD g F (λy=>call (.builtin "isinstance") [y,.type C]) v J q Q X) X) (hd:(x==("__debug__" : Str))=false) (u:(t==("__debug__" : Str))=false)
  (he:∀ env,pg [e,.Name t tp] env=(false,eval e env)::pg [.Name t tp] env):Ev g F (.Call (.Name x P) [e,.Name t tp] [] pos) J M Q X:=(λA env s I=>by
 refine oU (I.nB hk hd hg hb ?_);k_extra"bk"
 refine fj hp (s8 hp (wpAny_items_cons (pgo (h A env s I) (λv sw V q r I1 st1 hQ=>wpAny_items_cons (I1.nB D u w c (wpAny_items_nil ?_))) λN N p=>p) (he env)))
 exact oO (hQ A env sw v I1 r) (λN N p=>p.step st1) λN N p=>p.step st1)
theorem bn9{K:CmpOp}(h:Ev g F l J M (λa T=>Ev g F y J T (λb O=>pC g F (compareOp K) a b J O (λc Ma=>Tru g F c J Ma (λt D=>
   (t=true->Ev g F w J D (λd U=>pC g F (compareOp u) b d J U Q X) X)/\(t=false->Q c D)) X) X) X) X) (hm:lastMarks [K,u] [y,w]=false) :
  Ev g F (.Compare l [K,u] [y,w] pos) J M Q X:=(λA R s I=>by
 refine PyProof.Rows.Compare_chain (pgo (h A R s I) (λa sw Va T ra Z E h1=>PyProof.Rows.chain_link (pgo (h1 A R sw Z) (λb s₂ Vb O rb sy C h2=>?_) λN N p=>p.step E)) λN N p=>p) hm
 k_extra"al"
 have x:=(E.trans C).trans S;refine B8 (h3 A R s₃ c I3 rc) (λt s4 D q H Y=>?_) λN N p=>p.step x
 have L:=x.trans H;cases t with
 | false=>exact(λN k_=>k_ Vc D (rc.mono H.ak) q L (Y.2 rfl))
 | true=>
  refine PyProof.Rows.chain_last (pgo ((Y.1 rfl) A R s4 q) (λd s₅ Vd U rd I₅ P h5=>?_) λN N p=>p.step L)
  have Ja:=L.trans P;exact oO (h5 A R s₅ b d I₅ (rb.mono ((S.ak.trans H.ak).trans P.ak)) rd) (λN N p=>p.step Ja) λN N p=>p.step Ja)
theorem XN{D:CmpOp}(h:Ev g F l J M (λa T=>Ev g F y J T (λb O=>pC g F (compareOp D) a b J O (λc Ma=>Tru g F c J Ma (λt x=>
   (t=true->Ev g F w J x (λd U=>pC g F (compareOp u) b d J U (λe Y=>Tru g F e J Y QB X) X) X)/\(t=false->QB false x)) X) X) X) X) (hm:lastMarks [D,u] [y,w]=false) :
  Tst g F (.Compare l [D,u] [y,w] pos) J M QB X:=(λA R s I=>by
 refine PyProof.Rows.isTrue_chain (pgo (h A R s I) (λa sw Va T ra I1 E h1=>PyProof.Rows.test_link (pgo (h1 A R sw I1) (λb s₂ Vb O rb sy C h2=>?_) λN N p=>p.step E)) λN N p=>p) hm
 k_extra"al"
 have st13:=(E.trans C).trans S;refine B8 (h3 A R s₃ c I3 rc) (λt s4 x q K Z=>?_) λN N p=>p.step st13
 have H:=st13.trans K;cases t with
 | false=>exact(λN k_=>k_ x q H (Z.2 rfl))
 | true=>
  refine PyProof.Rows.test_last (pgo ((Z.1 rfl) A R s4 q) (λd s₅ Vd U rd I₅ L h5=>?_) λN N p=>p.step H)
  have Ja:=H.trans L;refine pgo (h5 A R s₅ b d I₅ (rb.mono ((S.ak.trans K.ak).trans L.ak)) rd) (λe s₆ Ve Y re I₆ P h6=>?_) λN N p=>p.step Ja
  exact oO (h6 A R s₆ e I₆ re) (λN N p=>(p.step P).step Ja) λN N p=>(p.step P).step Ja)
theorem bR5(c:(l.length:Int)<2 ^ 63)(h:Q (.int l.length) M):Cl g F (.builtin "len") [.tup l] J M Q X:=(λA R s q I r=>by
   k_extra"M"
   k_extra"bb"
   k_extra"bQ"
   refine PyProof.Rows.len_tuple ⟨_,ht,rfl,_,rfl⟩ (by rw[e];exact c) ?_
   rw[e];exact B2 I h)
theorem bS1(hM:M a=some (.L l))(c:(l.length:Int)<2 ^ 63)(h:Q (.int l.length) M):Cl g F (.builtin "len") [.ref a] J M Q X:=(λA R s q I r=>by
   k_extra"M"
   k_extra"Q"
   k_extra"bQ"
   refine nW hp.isList (by rw[e];exact c) ?_
   rw[e];exact B2 I h)
theorem bX0(hM:M a=some (.L l))(hz:l.length<=sizeLine)(h:Q (.tup l) M):Cl g F (.type "tuple") [.ref a] J M Q X:=(λA R s c I r=>by
   k_extra"M"
   k_extra"Q"
   k_extra"F"
   refine call_tuple_list hp.isList (λy K=>?_) (by rw[e];exact hz)
   have q:Step (inF A) f7 M M s {s with heap:=y}:=Step.grow (tk:=s.toks) K
   have p:=rM (Q:=Q) (I.keep q (I.sim.grow K)) (rl.mono q.ak) h;rw[jQ] at p;exact p.step q)
theorem bo3(h:Q (.tup l) M):Cl g F (.type "tuple") [.tup l] J M Q X:=(λA R s c I r=>by
   k_extra"M"
   k_extra"bb"
   exact call_tuple_same ⟨_,ht,rfl,_,rfl⟩ (C5 I (.tup ht rl) h))
theorem Hg{A env s}{D:Addr}{tk:Nat}(I:Inv g F A env J M s)(K:∀ b o,s.heap.get? b=some o->h'.get? b=some o)(hD:h'.get? D=some {cls:=.type "list",data:=.seq vs c})(q:s.heap.get? D=none)(r:d9 h' vs.toList l)
  (h:∀ a,M a=none->Q (.ref a) (upd M a (.L l))):l8 g F A env J M s Q (.ref D) {s with heap:=h',toks:=tk}:=
 F3 I ⟨K,rfl,rfl⟩ q hD r h
theorem Qe(c:M a=some (.L l))(hz:l.length<=sizeLine)(h:∀ b,M b=none->Q (.ref b) (upd M b (.L l))):Cl g F (.type "list") [.ref a] J M Q X:=(λA R s u I r=>by
   k_extra"M"
   k_extra"cv";obtain⟨us,⟨n,Ma⟩,rl⟩:=(I.sim.objs a _ c).1;k_extra"F"
   refine call_list_seq a (.inl rfl) Ma rfl rfl (λy T hk hD=>?_) (by rw[e];exact hz)
   exact Hg (tk:=s.toks) I hk hD (u5 _) (rl.mono λb N N q=>hk b _ q) h)
theorem bz6(hz:l.length<=sizeLine)(h:∀ b,M b=none->Q (.ref b) (upd M b (.L l))):Cl g F (.type "list") [.tup l] J M Q X:=(λA R s c I r=>by
   k_extra"M"
   k_extra"bb"
   have e:∀ (us:Array Value),d9 s.heap us.toList l->us.size=l.length:=λus r=>by rw[<- r.length,cB]
   refine call_list_seq _ (.inr rfl) ht rfl rfl (λy T hk hD=>?_) (by rw[e _ rl];exact hz)
   exact Hg (tk:=s.toks) I hk hD (u5 _) (rl.mono λb N N q=>hk b _ q) h)
theorem bH9(hz:l.length+k.length<=sizeLine)(h:Q (.tup (l++k)) M):pC g F (binaryOp .Add) (.tup l) (.tup k) J M Q X:=(λA q s x y I Z u=>by
  refine k9 Z.az λa vs n Ja R rl=>?_;subst Ja
  refine k9 u.az λb us m Ja c rk=>?_;subst Ja
  k_extra"cN"
  k_extra"cO"
  by_cases w:vs.isEmpty=true
  ·refine concat_meets ⟨_,R,rfl⟩ ⟨_,c,rfl⟩ noFill_tuple_add seq_tuple_add PySem.F.slot_tuple_add PySem.F.entry_tuple_add (PySem.F.args_tuple_add_2 _ _) (PyProof.Rows.tuple_addW0 _ _ vs us n m none none #[] #[] w) ⟨R,c,?_⟩
   have:l=[]:=by
    have:vs.size=0:=by simpa using w
    rw[e1] at this;exact fP.mp this
   subst this;exact C5 I (.tup c rk) h
  ·by_cases S:us.isEmpty=true
   ·refine concat_meets ⟨_,R,rfl⟩ ⟨_,c,rfl⟩ noFill_tuple_add seq_tuple_add PySem.F.slot_tuple_add PySem.F.entry_tuple_add (PySem.F.args_tuple_add_2 _ _) (PyProof.Rows.tuple_addW1 _ _ vs us n m none none #[] #[] w S) ⟨R,c,?_⟩
    have:k=[]:=by
     have:us.size=0:=by simpa using S
     rw[e2] at this;exact fP.mp this
    subst this;rw[dC] at h;exact C5 I (.tup R rl) h
   ·refine concat_meets ⟨_,R,rfl⟩ ⟨_,c,rfl⟩ noFill_tuple_add seq_tuple_add PySem.F.slot_tuple_add PySem.F.entry_tuple_add (PySem.F.args_tuple_add_2 _ _) (PyProof.Rows.tuple_addW2 _ _ vs us n m none none #[] #[] w S (l_6 hz e1 e2)) ⟨R,c,?_⟩
    have p:=rM (Q:=Q) (vs:=vs.toList++us.toList) I (rl.append rk) h;k_extra"cr"
    rw[e] at p;exact p)
theorem LR(Ma:M a=some (.L l))(Y:M b=some (.L k))(hz:l.length+k.length<=sizeLine)(h:∀ c,M c=none->Q (.ref c) (upd M c (.L (l++k)))):pC g F (binaryOp .Add) (.ref a) (.ref b) J M Q X:=(λA R s x y I rx ry=>by
 obtain rfl:=rx.aa;obtain rfl:=ry.aa;obtain⟨vs,⟨n,q⟩,rl⟩:=(I.sim.objs a _ Ma).1;obtain⟨us,⟨m,u⟩,rk⟩:=(I.sim.objs b _ Y).1;k_extra"cN"
 k_extra"cO"
 refine P.add_list q u ?_ (l_6 hz e1 e2);have p:=uJ (Q:=Q) (vs:=vs.toList++us.toList) I (rl.append rk) h;k_extra"cr"
 rw[e] at p;exact p)
end
noncomputable def slc{c:Type}(y q:Option Int)(l:List c):List c:=(l.drop (y.elim 0 (clipAt l.length))).take (q.elim l.length (clipAt l.length)-y.elim 0 (clipAt l.length))
theorem d9.drop(n:Nat)(r:d9 h vs l):d9 h (vs.drop n) (l.drop n):=by
 induction n generalizing vs l with
 | zero=>exact r
 | succ n c=>
  cases l with
  | nil=>rw[r.aA];exact .nil
  | cons x l=>refine g6 r.aj λv L Ja N r2=>?_;subst Ja;exact c r2
theorem d9.take(n:Nat)(r:d9 h vs l):d9 h (vs.take n) (l.take n):=by
 induction n generalizing vs l with
 | zero=>exact .nil
 | succ n c=>
  cases l with
  | nil=>rw[r.aA];exact .nil
  | cons x l=>refine g6 r.aj λv L Ja r1 r2=>?_;subst Ja;exact .cons r1 (c r2)
theorem d9.slc(y c:Option Int)(r:d9 h vs l):d9 h (slc y c vs) (slc y c l):=by
 unfold Internal.slc;rw[r.length];exact(r.drop _).take _
inductive OptInt:V->Option Int->Prop
 | none:OptInt .none none
 | int (i:Int):OptInt (.int i) (some i)
theorem OptInt.part(o:OptInt v k)(r:Rep h x v):IsPart x k:=by
 cases o with
 | none=>rw[r.aO];exact .none
 | int i=>refine d4 r.ofInt λt Ja=>?_;subst Ja;exact .int _ _
section
variable{w:World}
theorem GK(p:IsPart x k)(h:Q k s):wpAny (model prog w) A (Builtin.Slice.slicePartIndex x) Q E s:=by
 cases p with
 | none=>exact kj h
 | int i t=>exact PyProof.Rows.slicePart_int h
theorem Ph(lo hi:Option Int)(n:Nat):Builtin.Slice.sliceAdjust lo hi 1 (n:Int)=(((lo.elim 0 (clipAt n):Nat):Int),((hi.elim n (clipAt n):Nat):Int)):=by
 have key:∀ v:Int,(if v<0 then max (v+n) 0 else min v n)=((clipAt n v:Nat):Int):=λv=>by
  rw[clipAt_cast];by_cases h:v<0
  ·rw[if_pos h,if_pos h,Int.max_comm,mz (by lia)]
  ·rw[if_neg h,if_neg h,jy (Int.le_min.mpr ⟨lA.mp h,du n⟩)]
 unfold Builtin.Slice.sliceAdjust;have h1:¬ ((1:Int)<0):=by decide
 simp only[h1,if_false]
 cases lo<;>cases hi<;>simp only[mK,key]<;>rfl
theorem bF2(i j:Nat):Builtin.Slice.slicePlaces (i:Int) (j:Int) 1=j-i:=by
 unfold Builtin.Slice.slicePlaces;have Z:(1:Int) > 0:=by decide
 simp only[Z,if_true,Int.ediv_one]
 split
 ·rw[Int.sub_add_cancel];exact Int.toNat_sub j i
 ·exact(nj (cZ.mp (lA.mp (by assumption)))).symm
theorem Yg{F:Addr}{y C:Option Int}{D q:Value}{n:Nat}{Q:Int×Int×Nat->Shared->Prop}(P:s.heap.IsSliceOf F D q .none)(Z:IsPart D y)(I:IsPart q C)
  (h:Q (((y.elim 0 (clipAt n):Nat):Int),1,(C.elim n (clipAt n))-(y.elim 0 (clipAt n))) s):wpAny (model prog w) A (Builtin.Slice.sliceApplied (.ref F) (pure (n:Int))) Q E s:=by
 refine f5 (id P) λK u H c=>?_
 unfold Builtin.Slice.sliceApplied Builtin.Slice.sliceFields;refine oM (oM (wpAny_field u c (x:=D) rfl (oM (wpAny_field u c (x:=q) rfl (oM (wpAny_field u c (x:=.none) rfl (oN (oM (kj ?_)))))))));show wpAny _ _ (if ((1:Int)==0)=true then _ else _) _ _ s
 rw[if_neg (by decide)]
 refine oM (GK Z (oM (GK I (oM (oN ?_)))));show wpAny _ _ (match Builtin.Slice.sliceAdjust y C 1 (n:Int) with | (y,C)=>pure (y,(1:Int),Builtin.Slice.slicePlaces y C 1)) _ _ s
 rw[Ph];show wpAny _ _ (pure (((y.elim 0 (clipAt n):Nat):Int),(1:Int),Builtin.Slice.slicePlaces ((y.elim 0 (clipAt n):Nat):Int) ((C.elim n (clipAt n):Nat):Int) 1)) _ _ s;rw[bF2];exact oN h
theorem ce9(xs:Array Value)(i k:Nat):((cY k).filterMap fun(j:Nat)=>xs[((i:Int)+(j:Int)*1).toNat]?).toArray=((xs.toList.drop i).take k).toArray:=by
 have e:(fun(j:Nat)=>xs[((i:Int)+(j:Int)*1).toNat]?)=λj=>xs[i+j]?:=by
  funext j
  have:((i:Int)+(j:Int)*1).toNat=i+j:=by rw[Int.mul_one];rfl
  rw[this]
 rw[e];have:=pick_run xs i k;rw[List.filterMap_map] at this;have C:((λx=>xs[x]?)∘λx=>i+x)=λk=>xs[i+k]?:=rfl
 rw[C] at this;rw[this]
theorem Qj(R:PyProof.Rows.IsTup s.heap t items)(P:s.heap.IsSliceOf Ma S q .none)(Z:IsPart S y)(pu:IsPart q x)
  (Y:slc y x items.toList=items.toList->Q (.ref t) s)
  (h:Q (.ref s.heap.objs.size) {s with heap:=s.heap.push {cls:=.type "tuple",data:=.seq (slc y x items.toList).toArray}})
  (hsz:items.size<=sizeLine):wpAny (model prog w) A (getItem (.ref t) (.ref Ma)) Q E s:=by
 have c:items.toList.length=items.size:=cB;have u:sizeOk (.seq (slc y x items.toList).toArray):=by
  show(slc y x items.toList).toArray.size<=sizeLine;rw[iD];exact bN (nH _ _) (bN (by rw[jz];exact Nat.sub_le _ _) (c▸hsz))
 refine f5 (id P) λK L H T=>?_
 have F:s.TypeIs (.ref Ma) "slice":=⟨K,L,H⟩;unfold getItem
 try with_reducible refine oX ?_
 first | refine oM (oN ?_) | skip
 refine oM (wpAny_sequenceKey R.typeIs (by decide) ?_)
 refine oM (wpAny_callSpecial?_slot (name:=bM "__getitem__") R.typeIs jJ
  (wpAny_call_entry jJ R.typeIs PyProof.Rows.entry_tuple_getitem ?_ (PyProof.Rows.args_tuple_getitem _ _)))
 show wpAny _ _ (Builtin.Tuple.tupleItemsOf (.ref t) >>= _) _ _ s;refine oM (PyProof.Rows.tupleItemsOf_ R (oM (wpAny_typeOf F ?_)));rw[if_pos (by decide)]
 refine oM (Yg P Z pu ?_);generalize I:y.elim 0 (clipAt items.size)=i at *;generalize X:x.elim items.size (clipAt items.size)=j at *;have C:slc y x items.toList=(items.toList.drop i).take (j-i):=by
  unfold slc;rw[c,I,X]
 by_cases O:((i:Int)==0&&(1:Int)==1&&(j-i)==items.size)=true
 ·k_extra"aV"
  rw[if_pos O];have D:i=0:=by simp at O;lia
  have Ja:j-i=items.size:=by simp at O;lia
  have U:slc y x items.toList=items.toList:=by
   rw[C,D,List.drop_zero,D] at *;rw[Ja,<- c,iV]
  refine oM (m:=Builtin.Tuple.tupleIsExact _) ?_;unfold Builtin.Tuple.tupleIsExact;refine oM (wpAny_typeOf R.typeIs (oN ?_));rw[if_pos (by decide)]
  exact oM (wpAny_rule (oM (oN (oN ⟨_,rfl,oN (Y U)⟩))))
 ·k_extra"aV"
  rw[if_neg O,ce9 items i (j-i)];rw[C] at h u;first
   | exact oM (m:=Builtin.Tuple.tupleExact _) (oV (oN ⟨_,rfl,oN h⟩) u)
   | exact oM (m:=Builtin.Tuple.tupleExact _) (oV (oM (oN (oN ⟨_,rfl,oN h⟩))) u)
   | exact oM (oM (m:=Builtin.Tuple.tupleExact _) (oV (oN (oN ⟨_,rfl,oN h⟩)) u))
   | exact oM (oM (m:=Builtin.Tuple.tupleExact _) (oV (oN ⟨_,rfl,oN h⟩) u))
end
def EvO(g:G)(F:Blk)(e:Option Expr)(J:List (Option V))(M:Hp)(Q:V->Hp->Prop)(X:Str->Hp->Prop):Prop:=
 ∀ A R s,Inv g F A R J M s->wpAny (model g.prog g.w) A (evalPart e R) (l8 g F A R J M s Q) (j6 g F A R J M s X) s
def Slc(g:G)(F:Blk)(a:V)(y w:Option Int)(J:List (Option V))(M:Hp)(Q:V->Hp->Prop)(X:Str->Hp->Prop):Prop:=
 ∀ A R s x c u q,Inv g F A R J M s->Rep s.heap x a->s.heap.IsSliceOf c u q .none->IsPart u y->IsPart q w->∃ T id,s.TypeIs x T/\typeLookup (.type T) "__getitem__" = pure (some (.builtin id))/\
  wpAny (model g.prog g.w) A (getItem x (.ref c)) (l8 g F A R J M s Q) (j6 g F A R J M s X) s
section
variable{g:G}{Q:V->Hp->Prop}
theorem bp7(h:Q .none M):EvO g F none J M Q X:=(λA R s I=>wpAny_evalPart_none (C5 I .none h))
theorem bw4(h:Ev g F e J M Q X):EvO g F (some e) J M Q X:=(λA R s I=>wpAny_evalPart_some (h A R s I))
theorem bm0{lo:Option Expr}(h:Ev g F q J M (λa w=>EvO g F lo J w (λl O=>EvO g F hi J O (λu Ma=>∃ kl ku,OptInt l kl/\OptInt u ku/\Slc g F a kl ku J Ma Q X) X) X) X) :
  Ev g F (.Subscript q (.Slice lo hi none p) pos) J M Q X:=(λA R s I=>by
 refine PyProof.Rows.Subscript_ (pgo (h A R s I) (λa K Va w ra Z E D=>wpAny_Slice (pgo (D A R K Z) (λl L Vl O rl U C H=>?_) λN N p=>p.step E)) λN N p=>p)
 have x:=E.trans C;refine pgo (H A R L U) (λu P Vu Ma ru Y S hpq=>g6 hpq λkl ku ol ou Ja=>?_) λN N p=>p.step x
 refine wpAny_evalPart_none ?_;have c:Step (inF A) f7 Ma Ma P {P with heap:=P.heap.push {cls:=.type "slice",data:=.fields #[l,u,.none]}}:=Step.push
 refine g6 (Ja A R _ a P.heap.objs.size l u (Y.keep c Y.sim.push) (ra.mono ((C.ak.trans S.ak).trans c.ak)) (Heap.IsSliceOf.new ..) (ol.part (rl.mono S.ak)) (ou.part ru)) λT id hT hl hw=>?_
 have y:=(x.trans S).trans c;exact mZ hT hl (oO hw (λN N p=>p.step y) λN N p=>p.step y) rfl)
theorem Py(hz:l.length<=sizeLine)(h:Q (.tup (slc y c l)) M):Slc g F (.tup l) y c J M Q X:=(λA R s x C D q I r P Z w=>by
  k_extra"c7"
  k_extra"F"
  refine⟨"tuple",_,⟨_,ht,rfl⟩,PySem.F.slot_tuple_getitem.lookup,Qj ⟨_,ht,rfl,_,rfl⟩ P Z w (λu=>?_) (rM I (rl.slc y c) h) (l_7 hz e)⟩
  have r2:=rl.slc y c;rw[u] at r2;exact C5 I (.tup ht r2) h)
theorem Ri(hM:M a=some (.L l))(hz:l.length<=sizeLine)(h:∀ b,M b=none->Q (.ref b) (upd M b (.L (slc y c l)))):Slc g F (.ref a) y c J M Q X:=(λA R s x w D q I r P Z u=>by
 k_extra"cP";refine a7 ((I.sim.objs a _ hM).1) λus hp rl=>?_
 k_extra"F"
 refine⟨"list",_,hp.isList.typeIs,slot_list_getitem.lookup,wpAny_getItem_list_slice hp.isList P Z u .none (by simp) ?_ (l_7 hz e)⟩
 have C:slicePick us y c none=(slc y c us.toList).toArray:=by
  rw[slicePick_plain];unfold slc;rw[cB]
 rw[C];exact(uJ (Q:=Q) I (rl.slc y c) h))
theorem U0{A env s}(I:Inv g F A env J M s)(c:M a=some o)(r:s6 g h' a o')(P:Heap.SameBut a s.heap h')(Ma:l6 s.heap h')(K:∀ L,s.heap.get? a=some L->IsD L->∃ x,h'.get? a=some x/\IsD x) :
  Inv g F A env J (upd M a o') {s with heap:=h',toks:=tk}/\Step fr own M (upd M a o') s {s with heap:=h',toks:=tk}:=by
 have ne:∀ b,M b=none->b≠a:=λb Y q=>by rw[q,c] at Y;exact D4 Y
 have H:=(I.sim.objs a _ c).2;refine d4 r.has λx O=>?_
 have D:∀ E y:Addr->Prop,Step E y M (upd M a o') s {s with heap:=h',toks:=tk}:=λE y=>⟨⟨rfl,rfl⟩,λb o e=>by
   by_cases q:b=a
   ·clear c;subst q
    refine⟨x,O,λd=>a7 (K o e d) λR C w=>?_⟩
    rw[O] at C;replace C:=d7 C;clear K;clear O;subst C;exact w
   ·exact⟨o,(P.2 b q).trans e,id⟩,λb o e u N=>⟨o,(P.2 b (ne b u)).trans e,.inl rfl⟩,Ma,λb o e u=>by rw[e9 _ _ (ne b u)];exact u⟩
 refine⟨I.keep (D _ f7) ⟨λb o e=>(P.2 b (λq=>by rw[q,H] at e;exact i6 e)).trans (I.sim.stays b o e),λb o e=>?_⟩,D fr own⟩
 by_cases q:b=a
 ·clear ne;clear D;subst q
  rw[d6] at e;exact d7 e▸⟨r,H⟩
 ·rw[e9 _ _ q] at e
  exact⟨(I.sim.objs b o e).1.keep Ma λL Ja=>(P.2 b q).trans Ja,(I.sim.objs b o e).2⟩
theorem tC(P:Heap.SameBut a h h')(hl:h.PlainList a vs):l6 h h':=λb u n e=>by
 exact d4 hl λm c=>(P.2 b (λq=>by rw[q,c] at e;simp at e)).trans e
theorem wD{A env s}(I:Inv g F A env J M s)(c:∃ o,M a=some o)(Ma:h'.PlainList a L)(rl:d9 h' L.toList l)(P:Heap.SameBut a s.heap h')(q:∃ vs,s.heap.PlainList a vs) :
  Inv g F A env J (upd M a (.L l)) {s with heap:=h',toks:=tk}/\Step fr own M (upd M a (.L l)) s {s with heap:=h',toks:=tk}:=by
 refine d4 c λC w=>d4 q λvs u=>?_
 exact U0 I w ⟨L,Ma,rl⟩ P (tC P u) λD e d=>by
  refine d4 u λn x=>j7 d λy ep d=>?_
  rw[x] at e;k_extra"c6";cases d
theorem d9.set(i:Nat)(r:d9 h vs l)(q:Rep h v x):d9 h (vs.set i v) (l.set i x):=by
 induction l generalizing vs i with
 | nil=>rw[r.aA];exact .nil
 | cons y l ih=>
  refine g6 r.aj λu us qa r1 r2=>?_;subst qa
  cases i with
  | zero=>exact .cons q r2
  | succ i=>exact .cons r1 (ih i r2)
theorem Nq{k:Int}(q:s.heap.get? l=some {cls:=.type "list",data:=.seq items n})
  (Y:0<=k) (c:k<2 ^ 63) (C:k<items.size) (x:Z () {s with heap:=s.heap.update l (eO (·.setIfInBounds k.toNat v))}) :
  wpAny (model prog w) A (setItem (.ref l) (.int k t) v) Z E s:=by
 have hl:s.heap.IsList l items:=⟨_,q,rfl,n,rfl⟩;unfold setItem
 try with_reducible refine oX ?_
 first | refine oM (oN ?_) | skip
 refine oM (wpAny_sequenceKey hl.typeIs (by decide) ?_)
 refine oM (wpAny_callSpecial?_slot (name:=bM "__setitem__") hl.typeIs slot_list_setitem
  (wpAny_call_entry slot_list_setitem hl.typeIs entry_list_setitem ?_ (args_list_setitem _ _ _)))
 show wpAny _ _ (Builtin.List.listSubscript? (.int k t) >>= _) _ _ s;refine oM (wpAny_listSubscript_int (fitsIndex_of Y c) ?_);clear c;refine d4 (dI Y) λj Ja=>?_;subst Ja
 have y:j<items.size:=cJ.mp C;have u:=eE y;show wpAny _ _ ((seqItemAt l j >>= λr=>pure (r.map (j,·))) >>= _) _ _ s
 refine oM (oM (wpAny_seqItemAt q rfl (oN ?_)));rw[u];show wpAny _ _ (setSeqItemAt l j v >>= _) _ _ s;refine oM (wpAny_setSeqItemAt q rfl ?_);first
  | exact oM (oN (oN ⟨.none,rfl,oN x⟩))
  | exact oN ⟨.none,rfl,oN x⟩
def StI(g:G)(F:Blk)(a k v:V)(J:List (Option V))(M:Hp)(K:Hp->Prop):Prop:=
 ∀ A R s x y z (E:Value->Shared->Prop),Inv g F A R J M s->Rep s.heap x a->Rep s.heap y k->Rep s.heap z v->wpAny (model g.prog g.w) A (setItem x y z) (λz_ c=>∃ u,Inv g F A R J u c/\Step (inF A) (ownOf R) M u s c/\K u) E s
theorem Mi(h:Ev g F w J M (λv c=>Ev g F o J c (λa O=>Ev g F i J O (λk Ma=>StI g F a k v J Ma (λM=>QS .next J M)) (λx c=>L x J c)) (λx c=>L x J c)) (λx c=>L x J c))
  (hs:∀ env,swapsWith w (some (.Subscript o i p')) pos.line env=pure false):Ex g F (.Assign [.Subscript o i p'] w pos) J M QS L:=(λA env s I=>by
 refine wpAny_Assign_Subscript (pgo (h A env s I) (λv K Vv c rv Z E D=>pgo (D A env K Z) (λa T Va O ra U C H=>?_) λN N p=>(p.step E).toS) λN N p=>p.toS) (hs env)
 have y:=E.trans C;refine pgo (H A env T U) (λk P Vk Ma rk Y S Ja=>oO (Ja A env P a k v _ Y (ra.mono S.ak) rk (rv.mono (C.ak.trans S.ak))) (λN s' p=>?_) λN N p=>p) λN N p=>(p.step y).toS
 refine f5 p λu I' R q=>?_
 exact(λN k_=>k_ .next J u .next I' (((y.trans S).mono λN h=>h.elim).trans R) q))
theorem cs1{l:List V}{n:Int}{K:Hp->Prop}(w:M b=some (.L l))(Y:0<=n)(H:n<l.length)(T:(l.length:Int)<2 ^ 63)(P:K (upd M b (.L (l.set n.toNat v)))):StI g F (.ref b) (.int n) v J M K:=(λA R s x y z E I rx ry U=>by
 obtain rfl:=rx.aa;k_extra"9"
 refine a7 ((I.sim.objs b _ w).1) λus Ma rl=>?_
 k_extra"F"
 refine d4 (id Ma) λc O=>Nq O Y (fu H T) (by rw[e];exact H) ?_
 have S:Heap.SameBut b s.heap (s.heap.update b (eO (·.setIfInBounds n.toNat z))):=Heap.SameBut.update ..
 generalize C:s.heap.update b (eO (·.setIfInBounds n.toNat z))=L at S ⊢
 have D:L.PlainList b (us.setIfInBounds n.toNat z):=⟨_,by rw[<- C];exact gn _ O rfl⟩
 have Ja:=tC S Ma;obtain⟨q,u⟩:=wD (own:=ownOf R) (tk:=s.toks) (l:=l.set n.toNat v) I ⟨_,w⟩ D (by rw[Array.toList_setIfInBounds];exact(rl.mono Ja).set _ (U.mono Ja)) S ⟨us,Ma⟩
 exact⟨_,q,u,P⟩)
theorem Cv{name:Str}{args:List Expr}{id:String}(slot:Slot "list" name id)(L:typeOf (.builtin id)=pure (.type "method_descriptor"))
  (h:Ev g F o J M (λv u=>∃ a l,v=.ref a/\u a=some (.L l)/\Evs g F args J u (λvs O=>Cl g F (.builtin id) (.ref a::vs) J O Q X) X) X)
  (hline:(apos.endLine==pos.line)=true) (hbase:∀ env,attributeBase o name env (eval o env)=eval o env)
  (hfew:∀ env,((backTo pos (pg args env)).all (λx=>!x.1)&&(backToKw pos (keywordEach [] env)).all (λx=>x.1.isSome)
   && decide (args.length+([]:List Keyword).length+(if ([]:List Keyword).isEmpty then 0 else 1)<30))=true) :
  Ev g F (.Call (.Attribute o name apos) args [] pos) J M Q X:=(λA env s I=>by
 refine wpAny_Call_method (hbase env) (hfew env) hline PySem.F.plainAttrs_list slot L (pgo (h A env s I) (λY K V u r Z E H=>g6 H λa l w c Ja=>?_) λN N p=>p)
 clear H;rw[w] at r;k_extra"cP";obtain⟨us,⟨n,Ma⟩,rl⟩:=(Z.sim.objs a _ c).1;refine⟨⟨_,Ma,rfl⟩,λb e=>by cases e;exact⟨_,Ma,rfl⟩,d5 (Ja A env K pos Z) λS D=>fj D (s8 D (Q9 S (λvs T R O P U C q=>?_) λN N p=>p.step E))⟩
 have y:=E.trans C;exact oO (q A env T (.ref a::vs) U (.cons (.ref a) P)) (λN N p=>p.step y) λN N p=>p.step y)
theorem ca9(hM:M a=some (.L l))(hz:l.length<=sizeLine)(h:Q .none (upd M a (.L (l++[v])))):Cl g F (.builtin "list.append") [.ref a,v] J M Q X:=(λA R s D I r=>by
  k_extra"c8"
  k_extra"Q"
  k_extra"F"
  refine d4 (id hp) λc O=>wpAny_list_append_plain (hsz:=by exact l_7 hz e) hp λy w S=>?_
  have x:=tC S hp;obtain⟨q,u⟩:=wD (own:=f7) (tk:=s.toks) (l:=l++[v]) I ⟨_,hM⟩ w (by rw[jk];exact(rl.mono x).append (.cons (r'.mono x) .nil)) S ⟨us,hp⟩
  exact(λz_ C=>C .none _ .none q u h))
theorem bn4(h:Ev g F e J M (λN c=>u .next J c) (λx c=>w x J c))(P:∀ env,swapsWith e none pos.line env=pure false):Ex g F (.Expr e pos) J M u w:=(λA env s I=>
 wpAny_Expr_any (pgo (h A env s I) (λv y V c r Z E q=>(λN C=>C .next J c .next Z (E.mono λN h=>h.elim) q)) λN N p=>p.toS)
  (by unfold interactive;rw[I.fn];rfl) (P env))
theorem d9.bools{bs:List Bool}(r:d9 h vs (bs.map .bool)):vs=bs.map .bool:=by
 induction bs generalizing vs with
 | nil=>exact r.aA
 | cons b bs c=>refine g6 r.aj λv L Ja r1 r2=>?_;subst Ja;rw[r1.ofBool,c r2];rfl
theorem cw5{bs:List Bool}(O:F.q=true)(hM:M a=some (.L (bs.map .bool)))(h:Q (.bool (bs.all id)) M):Cl g F (.builtin "all") [.ref a] J M Q X:=(λA R s Z I r=>by
  k_extra"cY"
  k_extra"Q"
  have H:=rl.bools;have Ma:us.size=bs.length:=by rw[<- cB,H,bQ]
  k_extra"cQ";refine call_all_walk (wpAny_pyIter_list hp.isList ?_);k_extra"aR"
  refine⟨_,_,_,_,_,_,λi=>bs.getD i true,rfl,Walks.list (A:=A.in1) (I.quiet O) s.heap.objs.size a hne us,⟨⟨_,cH _ rfl,rfl,rfl⟩,hp.isList.push _⟩,λi v U w T L C=>?_,λy S K=>?_⟩
  ·dsimp only at L C
   have:us.toList[i]?=some v:=by rw[cM];exact L
   rw[H,bW] at this;refine a7 (cL.mp this) λb Y qa=>?_;clear r0;clear L;subst qa
   refine wpAny_truthy_bool ?_;have e:bs.getD i true=b:=by rw[cI,Y];rfl
   rw[e] at C;exact C
  ·have x:∀ b o,s.heap.get? b=some o->y.get? b=some o:=λb o e=>K b o (λq=>by simp at q;rw[q,hfr] at e;exact i6 e) (bZ _ e)
   have e:(cY us.size).all (λi=>bs.getD i true)=bs.all id:=by
    rw[Ma,mC,cX,cX];constructor
    ·intro u b Y
     obtain⟨i,Ja,rfl⟩:=ig Y;have:=u i (dY.mpr Ja);rw[cI,bO Ja] at this;exact this
    ·intro u i Ja
     have E:=dY.mp Ja;rw[cI,bO E];exact u _ (fL E)
   rw[e];have D:Step (inF A) f7 M M s {s with heap:=y,toks:=S}:=Step.grow x
   exact(λz_ P=>P (.bool _) M (.bool _) (I.keep D (I.sim.grow x)) D h))
end
def Scr(g:G)(a:Addr)(E:List Int):Prop:=∃ c:Array Value,g.h₀.IsList a c/\∀ h,d9 h c.toList (E.map .int)
section
variable{g:G}{Q:V->Hp->Prop}
theorem Uy{E:List Int}(P:Scr g a E)(c:(E.length:Int)<2 ^ 63)(h:Q (.int E.length) M):Cl g F (.builtin "len") [.ref a] J M Q X:=(λA R s u I r=>by
   refine a7 P λus hl rl=>a7 r.one λz_ Ja r0=>?_
   subst Ja;k_extra"cv";k_extra"aP"
   have e:((us.size:Nat):Int)=(E.length:Int):=by have:=(rl s.heap).length;rw[cB,bQ] at this;lia
   refine nW hl' (by rw[e];exact c) ?_
   rw[e];exact B2 I h)
theorem DP{E:List Int}(P:Scr g a E)(Y:0<=k)(c:k<2 ^ 63)(U:E[k.toNat]?=some x)(h:Q (.int x) M):Itm g F (.ref a) (.int k) J M Q X:=(λA R s v y I rx ry=>by
 refine a7 P λus hl rl=>?_
 obtain rfl:=rx.aa;k_extra"9"
 k_extra"aP"
 obtain⟨w,S,u⟩:=(rl s.heap).get (i:=k.toNat) (x:=.int x) (by rw[bW,U];rfl)
 exact⟨"list",_,hl'.typeIs,slot_list_getitem.lookup,wpAny_getItem_list hl' Y c (x:=w) (by rw[<- cM];exact S) (C5 I u h)⟩)
structure AsgL(g:G)(F:Blk)(es:List Expr)(l:List V)(J:List (Option V))(M:Hp)(Q:List (Option V)->Prop):Prop where
 run:∀ A env s xs (QU:Unit->Shared->Prop) (E:Value->Shared->Prop),Inv g F A env J M s->d9 s.heap xs l->
  (∀ s' J',Inv g F A env J' M s'->Step (inF A) (ownOf env) M M s s'->Q J'->QU () s')->wpAny (model g.prog g.w) A (assignInOrder ((assignEach es env).map (·.2)) xs) QU E s
 len:∀ env,(assignEach es env).length=l.length
 star:∀ env,(assignEach es env).findIdx? (·.1)=none
theorem Jc(h:P J):AsgL g F [] [] J M P:=⟨λA R s c Z E I r k=>oN (k s J I Step.refl h),λz_=>rfl,λz_=>rfl⟩
theorem bz0(U:F.vars[i]?=some x)(S:J[i]?=some w)(h:AsgL g F L l (J.set i (some v)) M P):AsgL g F (.Name x p::L) (v::l) J M P:=
 ⟨λA R s T Z E I r k=>by
   refine g6 r.aj λN N Ja u Ma=>?_;subst Ja
   show wpAny _ A (do holding _ (assign (.Name x p) R _);assignInOrder ((assignEach L R).map (·.2)) _) Z E s
   refine oM (oX (wpAny_assign_Name (I5 I U S u λO H D=>?_)))
   exact h.run A R O _ Z E H (Ma.mono D.ak) λC q y c K=>k C q y (D.trans c) K,λR=>by
  show((false,assign (.Name x p) R)::assignEach L R).length=_;rw[dD,h.len R,dD],λR=>by
  show((false,assign (.Name x p) R)::assignEach L R).findIdx? _=none;rw[List.findIdx?_cons,h.star R];rfl⟩
theorem xr(h:AsgL g F L l J M P):Asg g F (.Tuple L k p) (.tup l) J M P:=
 ⟨λA R s x Z E I Ja r T=>by
   k_extra"c7"
   k_extra"F"
   refine wpAny_assign_Tuple Ja ⟨_,ht,rfl,_,rfl⟩ (by rw[h.len R,e]) (h.star R) λy U=>?_
   have D:∀ c,Step (inF A) c M M s {s with heap:=y}:=λc=>Step.grow (tk:=s.toks) λb o e=>U b o (dU (dJ e)) e
   have K:∀ b o,s.heap.get? b=some o->y.get? b=some o:=λb o e=>U b o (dU (dJ e)) e
   refine h.run A R _ _ Z E (I.keep (D f7) (I.sim.grow K)) (rl.mono (D f7).ak) λC q w u H=>T C q w ((D _).trans u) H,.inr ⟨L,k,p,rfl⟩⟩
end
section
variable{g:G}{vs:List Str}{d:Nat}{q:Bool}{Q:V->Hp->Prop}
def Bi(g:G)(x:Str)(v:Value):Prop:=g.mg x=none/\g.mb x=some v
theorem u_b{args:List Expr}{id:String}(Y:Bi g x (.builtin id))(K:sc.names.lookup x=some .globalImplicit)
  (h:Evs g ⟨sc,vs,d,q⟩ args J M (λL c=>Cl g ⟨sc,vs,d,q⟩ (.builtin id) L J c Q X) X) (u:(x==("__debug__" : Str))=false):Ev g ⟨sc,vs,d,q⟩ (.Call (.Name x P) args [] pos) J M Q X:=Uh K Y.1 Y.2 h u
theorem u_t{args:List Expr}{id:String}(Y:Bi g x (.type id))(K:sc.names.lookup x=some .globalImplicit)
  (h:Evs g ⟨sc,vs,d,q⟩ args J M (λL c=>Cl g ⟨sc,vs,d,q⟩ (.type id) L J c Q X) X) (u:(x==("__debug__" : Str))=false):Ev g ⟨sc,vs,d,q⟩ (.Call (.Name x P) args [] pos) J M Q X:=Th K Y.1 Y.2 h u
theorem Gw{D:Pos}(Y:Bi g x (.builtin "isinstance"))(c:Bi g t (.type C))(K:sc.names.lookup x=some .globalImplicit)(A:sc.names.lookup t=some .globalImplicit)
  (h:Ev g ⟨sc,vs,d,q⟩ e J M (λv u=>pD g ⟨sc,vs,d,q⟩ (λy=>call (.builtin "isinstance") [y,.type C]) v J u Q X) X) (E:(x==("__debug__" : Str))=false) (w:(t==("__debug__" : Str))=false)
  (F:∀ env,pg [e,.Name t D] env=(false,eval e env)::pg [.Name t D] env):Ev g ⟨sc,vs,d,q⟩ (.Call (.Name x P) [e,.Name t D] [] pos) J M Q X:=cz3 K Y.1 Y.2 A c.1 c.2 h E w F
theorem DG(Y:Bi g x (.type "range"))(K:sc.names.lookup x=some .globalImplicit)
  (h:Ev g ⟨sc,vs,d,q⟩ e J M (λv c=>∃ n,v=.int n/\u 0 n 1 c) X) (w:(x==("__debug__" : Str))=false) (y:∀ env,pg [e] env=(false,eval e env)::pg [] env):Rng g ⟨sc,vs,d,q⟩ (.Call (.Name x P) [e] [] pos) J M u X:=ct6 K Y.1 Y.2 h w y
end
def Fn(g:G)(x:Str):Prop:=∃ c Ma u,FnAt g x c Ma u/\∃ v,g.mg x=some v
def Gi(g:G)(x:Str)(i:Int):Prop:=∃ t,g.mg x=some (.int i t)
section
variable{g:G}{vs:List Str}{d:Nat}{q:Bool}{Q:V->Hp->Prop}
theorem Vp{args:List Expr}(T:Fn g x)(K:sc.names.lookup x=some .globalImplicit)(u:(x==("__debug__" : Str))=false)
  (h:Evs g ⟨sc,vs,d,q⟩ args J M (λL c=>d8 g d q x L c Q X) X):Ev g ⟨sc,vs,d,q⟩ (.Call (.Name x P) args [] pos) J M Q X:=
 by refine v9 T λN N N T w=>?_;refine d4 w λN w=>?_;exact Ub T w K h u
theorem Rz(T:Gi g x i)(K:sc.names.lookup x=some .globalImplicit)(c:(x==("__debug__" : Str))=false)(h:Q (.int i) M):Ev g ⟨sc,vs,d,q⟩ (.Name x pos) J M Q X:=
 by refine d4 T λt T=>?_;exact yR K T (λz_=>.int i t) h c
theorem bQ2(Y:0<b)(h:Q (.int (a%b)) M):pC g F (binaryOp .Mod) (.int a) (.int b) J M Q X:=Xz (by exact Ne.symm (Int.ne_of_lt Y)) (by rw[Int.fmod_eq_emod_of_nonneg _ (by exact gV Y)];exact h)
theorem Iv(Y:0<b)(hl:b<2 ^ 64)(h:Q (.int (a / b)) M):pC g F (binaryOp .FloorDiv) (.int a) (.int b) J M Q X:=RW (jR Y) (by
 have:b.natAbs.log2<64:=(Nat.log2_lt (Int.natAbs_ne_zero.mpr (jR Y))).mpr (by lia)
 exact bN this (cT ..)) (by rw[Int.fdiv_eq_ediv_of_nonneg _ (gV Y)];exact h)
theorem Np(Ma : -(2 ^ 60)<=a)(u:a<=2 ^ 60)(h:Q (.int (a*b)) M):pC g F (binaryOp .Mult) (.int a) (.int b) J M Q X:=Gx h (PySem.IntMulOk.of_left (PySem.intBits_le_64 (l_9 Ma) (l_8 u)))
theorem Sg(Ma : -(2 ^ 60)<=b)(u:b<=2 ^ 60)(h:Q (.int (a*b)) M):pC g F (binaryOp .Mult) (.int a) (.int b) J M Q X:=Gx h (PySem.IntMulOk.of_right (PySem.intBits_le_64 (l_9 Ma) (l_8 u)))
theorem g9(Y:M b=some x)(c:M a=none):upd M a o b=some x:=by rw[e9 M o (λe=>by rw[e,c] at Y;exact i6 Y)];exact Y
theorem NT(Ma:M b=none)(c:b≠a):upd M a o b=none:=by rw[e9 M o c];exact Ma
theorem j3(h:upd M a o b=none):b≠a/\M b=none:=by
 by_cases e:b=a
 ·subst e;rw[d6] at h;exact D4 h
 ·exact⟨e,by rw[e9 M o e] at h;exact h⟩
theorem p8(Y:M b=some x)(c:b≠a):upd M a o b=some x:=by rw[e9 M o c];exact Y
theorem j8(Y:M b=some x)(c:M a=none):b≠a:=λe=>by rw[e,c] at Y;exact i6 Y
theorem d8.mono(h:d8 g d q f as M Q X)(k:∀ v M,Q v M->w v M):d8 g d q f as M w X:=(λA s vs a Z S x y E U C=>
 oW (h A s vs a Z S x y E U C) (λr H p=>by
  cases r with
  | error e=>exact p
  | ok f=>cases f with
   | ret v=>refine p _ ?_;intro V u a b c e;exact λz_ D=>D V u a b c (k _ _ e)
   | _=>exact p.elim))
theorem Inv.sub{A env s M'}(I:Inv g F A env J M s)(k:Sub M' M):Inv g F A env J M' s:=I.keep (Step.refl.sub k) (I.sim.sub k)
theorem Ev.drop(h:Ev g F e J M (λv M'=>∃ L,Sub L M'/\Q v L) (λx M'=>∃ L,Sub L M'/\X x L)):Ev g F e J M Q X:=(λA R s I=>
 oO (h A R s I) (λN N p=>by refine p _ ?_;clear p;rintro V M' r i y ⟨L,k,q⟩;exact(λN c=>c V L r (i.sub k) (y.sub k) q)) λN N p=>by refine p _ ?_;clear p;rintro x M' f i y ⟨L,k,q⟩;exact(λN c=>c x L (f.sub k) (i.sub k) (y.sub k) q))
theorem Ev.aJ(h:Ev g F e J M Q X)(k:∀ v M,X v M->c v M):Ev g F e J M Q c:=(λA R s I=>
 oO (h A R s I) (λN N p=>p) (λN N p=>by refine p _ ?_;clear p;rintro V u r i y q;exact(λN w=>w V u r i y (k _ _ q))))
theorem G2(k:Sub M' M):Sub (upd M' a o) (upd M a o):=λb U e=>by
 unfold upd at e ⊢
 split at e
 ·rw[if_pos ‹_›];exact e
 ·rw[if_neg ‹_›];exact k b U e
theorem C6(st:Step fr own M M' s s'):Step fr own (upd M a o) (upd M' a o) s s':=
 ⟨st.same,st.dom,λb u Y c w=>st.keep b u Y (j3 c).2 w,st.ak,λb u Y c=>by
  refine d5 (j3 c) λZ S=>?_
  rw[e9 _ _ Z];exact st.new b u Y S⟩
theorem xm(r:s6 g s.heap a o)(Y:g.h₀.get? a=none)(K:Sim g M' s'.heap)(st:Step fr own M M' s s')(c:¬ own a)(Ma:M a=none)(P:¬ fr a):Sim g (upd M' a o) s'.heap/\M' a=none:=by
 exact d4 r.has λw u=>⟨K.put (r.keep st.ak λw e=>st.exact e Ma c P) Y,st.new a _ u Ma⟩
theorem FrL.sub(x:FrL g A M h)(k:Sub M' M):FrL g A M' h:=by
 k_extra"bm";rintro l hl all;refine(λz_ c=>c l hl (λe w=>(all e w) _ ?_))
 rintro L Z S u P o y d;refine(λz_ c=>c L Z S u ?_ o y d)
 cases q:M' L with
 | none=>rfl
 | some o=>rw[<- k L o q,P]
theorem Fly.frame(f:Fly g A e x s.heap M' h)(r:s6 g s.heap a o):Fly g A e x s.heap (upd M' a o) h:=f.sig λb n Y=>by
 refine d4 r.has λu c=>?_
 rw[e9 _ _ (λq=>by rw[q,c] at n;exact D4 n)];exact Y
theorem qP{A env s M' s'}(I:Inv g F A env J (upd M a o) s)(c:Inv g F A env J M' s')(st:Step (inF A) f7 M M' s s')(Ma:M a=none):Inv g F A env J (upd M' a o) s'/\M' a=none:=by
 k_extra"cR"
 obtain⟨Z,S⟩:=xm r hb c.sim st id Ma (I.frs.not (.inr (by rw[d6];exact jc _)))
 exact⟨I.keep (C6 st) Z,S⟩
theorem Ev.frame(h:Ev g F e J M Q X)(Ma:M a=none):Ev g F e J (upd M a o) (λv O=>∃ u,O=upd u a o/\u a=none/\Q v u) (λv O=>∃ u,O=upd u a o/\u a=none/\X v u):=(λA R s I=>by
 refine pgo (h A R s (I.sub (Sub.upd (o:=o) Ma))) (λv C V u r w D q=>d5 (qP I w D Ma) λJa x=>(λz_ y=>y V _ r Ja (C6 D) ⟨u,rfl,x,q⟩)) λv C c=>?_
 ·refine c _ ?_;clear c;rintro V u r w D q
  refine d5 (qP I w D Ma) λJa x=>?_
  exact(λz_ y=>y V _ (r.frame (I.sim.objs a o (d6 _ _ _)).1) Ja (C6 D) ⟨u,rfl,x,q⟩))
theorem Evs.mono{Q:List V->Hp->Prop}(h:Evs g F L J M Q X)(k:∀ v M,Q v M->c v M):Evs g F L J M c X:=(λA R s pos I=>
 ⟨Q9 (h A R s pos I).1 (λN N V u r i y q=>(λN w=>w V u r i y (k _ _ q))) λN N p=>p,(h A R s pos I).2⟩)
theorem Evs.aJ{Q:List V->Hp->Prop}(h:Evs g F L J M Q X)(k:∀ v M,X v M->c v M):Evs g F L J M Q c:=(λA R s pos I=>
 ⟨oO (h A R s pos I).1 (λN N p=>p) (λN N p=>by refine p _ ?_;clear p;rintro V u r i y q;exact(λN w=>w V u r i y (k _ _ q))),(h A R s pos I).2⟩)
theorem bw9(h:Evs g F L J M (λvs c=>vs.length<=sizeLine/\Ev g F w J c (λk O=>∃ n x,k=.int n/\0<=n/\n<2 ^ 63/\vs[n.toNat]?=some x/\Q x O) X) X)
  (P:∀ o i,subscripted w false o i=operate [o,i] (getItem o i)):Ev g F (.Subscript (.List L p) w pos) J M Q X:=by
 refine Ev.drop (uK (xg ((h.aJ λx M h=>⟨M,Sub.refl _,h⟩).mono λvs c p=>⟨p.1,λa Ma=>((Ev.frame p.2 Ma).mono ?_).aJ ?_⟩)) P)
 ·rintro k O y;obtain⟨u,rfl,A,n,x,rfl,Y,Z,U,C⟩:=y
  exact uI (d6 _ _ _) Y Z U ⟨u,Sub.upd A,C⟩
 ·rintro x O y;refine f5 y λu Ja A C=>?_;clear y;subst Ja
  exact⟨u,Sub.upd A,C⟩
end
section
variable{g:G}{vs:List Str}{d:Nat}{Q:V->Hp->Prop}
def s5(a:Int):Prop:=-(2 ^ 60)<=a/\a<=2 ^ 60
theorem lng(h : -2 ^ 60<=a/\a<=2 ^ 60) : -9223372036854775808<=a/\a<9223372036854775808:=⟨cQ (by decide) h.1,dz h.2 (by decide)⟩
theorem yV(Ma:s5 a)(Y:s5 b):Builtin.Range.small a b 1=true:=by
 unfold Builtin.Range.small Builtin.Range.rangeSize Builtin.Range.rangeFitsLong;simp
 refine⟨⟨⟨lng Ma,lng Y⟩,?_⟩,.inr (lng Y)⟩;by_cases q:a<b
 ·rw[if_pos q];exact⟨cQ (by decide) (Int.sub_le_sub Y.1 Ma.2),dz (Int.sub_le_sub Y.2 Ma.1) (by decide)⟩
 ·rw[if_neg q];decide
theorem Cu(a b:Int):(Builtin.Range.rangeSize a b 1).toNat=(b-a).toNat:=by
 unfold Builtin.Range.rangeSize;simp
 split<;>lia
theorem Xn(h:i<n):(m6 a 1 n).drop i=.int (a+i)::(m6 a 1 n).drop (i+1):=by
 have hl:i<(m6 a 1 n).length:=by rw[O2];exact h
 rw[gQ hl]
 congr 1
 simp[m6]
theorem yL(h:v::l=(m6 a 1 n).drop i):i<n/\v=.int (a+i)/\l=(m6 a 1 n).drop (i+1):=by
 by_cases c:i<n
 ·rw[Xn c] at h
  cases h;exact⟨c,rfl,rfl⟩
 ·rw[List.drop_eq_nil_of_le (by rw[O2];exact TV c)] at h;cases h
theorem xJ(c:i<=n)(h:[]=(m6 a 1 n).drop i):i=n:=by
 have:=congrArg List.length h;simp[O2] at this;exact gf c (iB.mp this.symm)
end
section
variable{g:G}{vs:List Str}{d:Nat}{q:Bool}{Q:V->Hp->Prop}
def S0(P:Nat->V->Prop):Nat->List V->Prop
 | _,[]=>True
 | i,x::c=>P i x/\S0 P (i+1) c
theorem JD:S0 P i []:=trivial
theorem ck4(h:P i x)(t:S0 P (i+1) xs):S0 P i (x::xs):=⟨h,t⟩
theorem tM{k:Int}{n:Nat}(Y:0<=k)(Z:k<n):seqIndex? k n=some k.toNat:=by
 unfold seqIndex?;simp[lA.mpr Y]
 exact⟨Y,Z⟩
theorem cr2(h0:0<=k)(h1:k<l.length)(hz:k<2 ^ 63)(h:∀ x,l[k.toNat]?=some x->Q x M):Itm g F (.tup l) (.int k) J M Q X:=by
 have hl:k.toNat<l.length:=W6 h0 h1;exact xU (by exact cQ (by decide) h0) hz (tM h0 h1) (bO hl) (h _ (bO hl))
theorem Jm{l:List V}{k:Int}(c:M a=some (.L l))(h0:0<=k)(h1:k<l.length)(hz:k<2 ^ 63)(h:∀ x,l[k.toNat]?=some x->Q x M):Itm g F (.ref a) (.int k) J M Q X:=by
 have hl:k.toNat<l.length:=W6 h0 h1;exact uI c h0 hz (bO hl) (h _ (bO hl))
theorem U5(Y:0<=j):clipAt n j=min j.toNat n:=by
 have:=clipAt_cast n j;rw[if_neg (lA.mpr Y)] at this;rw[<- fU (clipAt n j),this];rcases Int.le_total j n with h | h
 ·rw[mz h,jy Y,je (iJ.mpr h)]
 ·rw[Int.min_eq_right h,jy (du n),fU,jA (Int.le_toNat Y |>.mpr h)]
theorem Bb{c:Type}{l:List c}(Y:0<=j):slc none (some j) l=l.take j.toNat:=by
 show(l.drop 0).take (clipAt l.length j-0)=_;rw[List.drop_zero,Nat.sub_zero,U5 Y,<- List.take_eq_take_min]
theorem Fx{c:Type}{l:List c}(Y:0<=j):slc (some j) none l=l.drop j.toNat:=by
 show(l.drop (clipAt l.length j)).take (l.length-clipAt l.length j)=_;rw[U5 Y,jt (by rw[jz];exact cO _)]
 rcases Nat.le_total j.toNat l.length with h | h
 ·rw[je h]
 ·rw[jA h,mO (cO _),mO h]
theorem wj{A env s M' s'}(I:Inv g F A env J (upd M a o) s)(c:Inv g F A env S M' s')(st:Step (inF A) (ownOf env) M M' s s')(Ma:M a=none):Inv g F A env S (upd M' a o) s'/\M' a=none:=by
 k_extra"cR"
 have u:¬ ownOf env a:=λq=>by have:=I.loc.free a q;rw[d6] at this;exact D4 this
 obtain⟨Z,w⟩:=xm r hb c.sim st u Ma (I.frs.not (.inr (by rw[d6];exact jc _)))
 refine⟨⟨c.scope,c.fn,c.glob,c.bk,c.room,c.units,c.quiet,Z,⟨c.loc.len,c.loc.ns,λb U=>?_,c.loc.live,c.loc.apart,c.loc.other⟩,c.base,c.nd,I.frs.step (C6 st)⟩,w⟩
 rw[e9 _ _ (fun(e:b=a)=>u (by rw[<- e];exact U))];exact c.loc.free b U
theorem Exs.frame{E:n9}(h:Exs g F H J M C E)(Ma:M a=none):Exs g F H J (upd M a o) (λf S O=>∃ u,O=upd u a o/\u a=none/\C f S u) (λf S O=>∃ u,O=upd u a o/\u a=none/\E f S u):=(λA R s I=>by
 refine oO (h A R s (I.sub (Sub.upd (o:=o) Ma))) (λv K c=>?_) λv K c=>?_
 ·refine c _ ?_;clear c;rintro V S u r w D q
  exact d5 (wj I w D Ma) λJa x=>(λz_ y=>y V S _ r Ja (C6 D) ⟨u,rfl,x,q⟩)
 ·refine c _ ?_;clear c;rintro V S u r w D q
  refine d5 (wj I w D Ma) λJa x=>?_
  exact(λz_ y=>y V S _ (r.frame (I.sim.objs a o (d6 _ _ _)).1) Ja (C6 D) ⟨u,rfl,x,q⟩))
theorem Asg.frame(h:Asg g F t v J M P)(Ma:M a=none):Asg g F t v J (upd M a o) P:=⟨λA R s x Z E I u r k=>by
 refine h.run A R s x Z E (I.sub (Sub.upd (o:=o) Ma)) u r λw S c D p=>?_
 exact k w S (wj I c D Ma).1 (C6 D) p,h.tgt⟩
theorem Asg.mono(h:Asg g F t v J M P)(k:∀ J,P J->c J):Asg g F t v J M c:=⟨λA R s x Z E I w r y=>h.run A R s x Z E I w r λC S u D p=>y C S u D (k _ p),h.tgt⟩
theorem Exs.aJ{D:List Stmt}(h:Exs g F D J M x C)(k:∀ f J M,C f J M->w f J M):Exs g F D J M x w:=(λA R s I=>
 oO (h A R s I) (λN N p=>p) λN N c=>by refine c _ ?_;clear c;rintro V S u r i y q;exact(λN E=>E V S u r i y (k _ _ _ q)))
theorem Ex.xdrop{Q:j5}{X:n9}(h:Ex g F u J M (λv S M'=>∃ L,Sub L M'/\Q v S L) (λv S M'=>∃ L,Sub L M'/\X v S L)):Ex g F u J M Q X:=(λA R s I=>
 oO (h A R s I) (λN N p=>by refine p _ ?_;clear p;rintro V S M' r i y ⟨L,k,q⟩;exact(λN c=>c V S L r (i.sub k) (y.sub k) q)) (λN N p=>by refine p _ ?_;clear p;rintro V S M' r i y ⟨L,k,q⟩;exact(λN c=>c V S L (r.sub k) (i.sub k) (y.sub k) q)))
theorem d8.frame(h:d8 g d q f as M Q X)(Ma:M a=none):d8 g d q f as (upd M a o) (λv O=>∃ u,O=upd u a o/\u a=none/\Q v u) (λv O=>∃ u,O=upd u a o/\u a=none/\X v u):=(λA s vs I Z S Ja K E T U=>by
 have c:∀ {u:Hp} {x:Shared},Sim g u x.heap->Step (inF A) f7 M u s x->Sim g (upd u a o) x.heap/\u a=none:=fun{u x} sm st=>by
  refine d5 (E.objs a o (d6 _ _ _)) λr Y=>xm r Y sm st id Ma λq=>g6 q λl e hl R hq=>T _ ?_
  clear T;rintro l' w all;rw[hl] at w;replace w:=d7 w;subst w;refine(all e R) _ ?_;rintro L-hL-P - - -;rw[hq] at hL;replace hL:=d7 hL;subst hL;rw[d6] at P;exact D4 P
 refine oW (h A s vs I Z S Ja K (E.sub (Sub.upd Ma)) (T.sub (Sub.upd Ma)) U) (λr x p=>?_)
 cases r with
 | error v=>
  refine p _ ?_;intro V u D H y e;exact d5 (c H y) λy1 y2=>λz_ C=>C V _ (D.frame (E.objs a o (d6 _ _ _)).1) y1 (C6 y) ⟨u,rfl,y2,e⟩
 | ok f=>cases f with
  | ret v=>
   refine p _ ?_;intro V u D H y e;exact d5 (c H y) λy1 y2=>λz_ C=>C V _ D y1 (C6 y) ⟨u,rfl,y2,e⟩
  | _=>exact p.elim)
theorem d8.aJ(h:d8 g d q f as M Q X)(k:∀ v M,X v M->w v M):d8 g d q f as M Q w:=(λA s vs a Z S y C E T U=>
 oW (h A s vs a Z S y C E T U) (λr H p=>by
  cases r with
  | error e=>refine p _ ?_;intro V u a b c x;exact λz_ D=>D V u a b c (k _ _ x)
  | ok f=>cases f with
   | ret v=>exact p
   | _=>exact p.elim))
theorem d8.under(h:d8 g d q f as M Q noX)(Ma:M a=none):d8 g d q f as (upd M a o) (λv O=>∃ u,O=upd u a o/\u a=none/\Q v u) X:=
 (h.frame Ma).aJ λN N p=>by refine f5 p λN N N h=>?_;exact h.elim
end
def H1(xs:Array Nat):Prop:=∀ i j:Nat,i<j->∀ x y,xs[i]?=some x->xs[j]?=some y->x<y
theorem IV(I:H1 xs):∀ (q y u:Nat),u-y<=q->y<=u->u<=xs.size->(∀ i x,i<y->xs[i]?=some x->x<j)->(∀ i x,u<=i->xs[i]?=some x->j<=x)->
  (∀ i x,i<SetTable.below.go xs j q y u->xs[i]?=some x->x<j)/\(∀ i x,SetTable.below.go xs j q y u<=i->xs[i]?=some x->j<=x)/\SetTable.below.go xs j q y u<=xs.size:=by
 intro q;induction q with
 | zero=>
  intro y u T D C Z S;obtain rfl:y=u:=gf D (iB.mp (Nat.le_zero.mp T));exact⟨Z,S,C⟩
 | succ q K=>
  intro y u T D C Z S;by_cases w:y<u
  ·rw[show SetTable.below.go xs j (q+1) y u=if xs.getD ((y+u) / 2) j<j then SetTable.below.go xs j q ((y+u) / 2+1) u else SetTable.below.go xs j q y ((y+u) / 2) from if_pos w]
   have E:y<=(y+u) / 2:=(Nat.le_div_iff_mul_le (by decide)).mpr (by rw[Nat.mul_two];exact fG D y)
   have c:=Nat.div_lt_of_lt_mul (by rw[Nat.two_mul];exact Nat.add_lt_add_right w u)
   generalize (y+u) / 2=m at E c;have Ja:=cR c C;have A:=eE Ja;rw[show xs.getD m j=xs[m] from dif_pos Ja]
   by_cases O:xs[m]<j
   ·rw[if_pos O]
    refine K (m+1) u (bN (Nat.sub_le_sub_left (fB E) u) (Nat.pred_le_pred T)) c C (λi x F U=>?_) S
    rcases km (eH F) with rfl | H
    ·rw[A] at U;exact d7 U▸O
    ·exact gY (I i m H x _ U A) O
   ·rw[if_neg O]
    refine K y m (eH (cR (Nat.sub_lt_sub_right E c) T)) E (dK Ja) Z (λi x F U=>?_)
    rcases km F with rfl | H
    ·rw[A] at U;exact d7 U▸dO O
    ·exact bN (dO O) (dK (I m i H _ x A U))
  ·rw[show SetTable.below.go xs j (q+1) y u=y from if_neg w]
   obtain rfl:y=u:=gf D (dO w);exact⟨Z,S,C⟩
theorem uV(I:H1 xs):(∀ i x,i<SetTable.below xs j->xs[i]?=some x->x<j)/\(∀ i x,SetTable.below xs j<=i->xs[i]?=some x->j<=x)/\SetTable.below xs j<=xs.size:=
 IV I xs.size 0 xs.size (cO _) (cP _) (cO _) (λi x h N=>absurd h (gA _)) (λi x h U=>absurd (fJ.mp U).1 (iU.mpr h))
theorem Mf{c:Type}(xs:Array c)(p:Nat)(x:c):(SetTable.insertAt xs p x).toList=xs.toList.take p++x::xs.toList.drop p:=by
 unfold SetTable.insertAt;simp[jt]
theorem Z9:H1 xs↔xs.toList.Pairwise (· < ·):=by
 constructor
 ·intro h
  rw[jf];exact λi j q u c=>h i j c _ _ (by rw[<- cM];exact bO q) (by rw[<- cM];exact bO u)
 ·intro h i j c x y U L
  rw[<- cM] at U L;obtain⟨q,rfl⟩:=cj.mp U;obtain⟨u,rfl⟩:=cj.mp L;exact jf.mp h i j q u c
theorem QD(I:H1 xs)(E:xs[SetTable.below xs j]?≠some j):H1 (SetTable.insertAt xs (SetTable.below xs j) j):=by
 refine i4 (uV (j:=j) I) λZ S F=>?_
 have c:∀ i x,SetTable.below xs j<=i->xs[i]?=some x->j<x:=λi x u U=>by
  have q:=S i x u U;rcases Nat.lt_or_ge j x with A | A
  ·exact A
  ·obtain rfl:x=j:=gf A q
   rcases km u with e | e
   ·exact absurd (by rw[e];exact U) E
   ·have Y:=gY e (fJ.mp U).1
    exact absurd (I _ _ e _ _ (eE Y) U) (iU.mpr (S _ _ (cO _) (eE Y)))
 rw[Z9,Mf];have Ma:=Z9.mp I;refine nJ.mpr ⟨Ma.sublist (List.take_sublist _ _),List.pairwise_cons.mpr ⟨λy L=>?_,Ma.sublist (List.drop_sublist _ _)⟩,λa D b Y=>?_⟩
 ·refine d4 (iK.mp L) λi u=>?_
  rw[List.getElem?_drop,cM] at u;exact c _ _ (eG _ _) u
 ·refine d4 (iK.mp D) λi u=>?_
  have w:i<SetTable.below xs j:=by
   have:=(cj.mp u).1;rw[gZ] at this;exact cR this (eQ _ _)
  rw[List.getElem?_take_of_lt w,cM] at u;have C:=Z _ _ w u;rcases bR.mp Y with rfl | Y
  ·exact C
  ·refine d4 (iK.mp Y) λk K=>?_
   rw[List.getElem?_drop,cM] at K;exact gY C (c _ _ (eG _ _) K)
theorem Pg(I:H1 xs):SetTable.below xs 0=0:=by
 refine i4 (uV (j:=0) I) λZ S c=>?_
 rcases Nat.eq_zero_or_pos (SetTable.below xs 0) with e | e
 ·exact e
 ·exact absurd (Z 0 _ e (eE (cR e c))) (gA _)
theorem cf7(I:H1 xs)(U:xs[i]?=some x):SetTable.below xs (x+1)=i+1:=by
 refine i4 (uV (j:=x+1) I) λZ S c=>?_
 have u:=(fJ.mp U).1;rcases Nat.lt_trichotomy (SetTable.below xs (x+1)) (i+1) with q | q | q
 ·exact absurd (S i x (eH q) U) (Nat.not_succ_le_self _)
 ·exact q
 ·have Y:=cR q c
  exact absurd (I i (i+1) (gF _) _ _ U (eE Y)) (iU.mpr (eH (Z (i+1) _ q (eE Y))))
structure Tidy(t:SetTable)(led:Bool):Prop where
 rise:H1 t.place
 nod:t.dummies=#[]
 led:t.led=led
theorem YL(led:Bool):Tidy (.fresh 0 0 led) led:=⟨λi j h x y U=>by simp[SetTable.fresh] at U,rfl,rfl⟩
theorem Sh(n:Nat):H1 (Array.range n):=by
 rw[Z9];simp[mQ]
theorem sO{led:Bool}(h:Tidy t led)(n:Nat):Tidy (t.standIn n) led:=⟨Sh n,rfl,h.led⟩
theorem ZP{t:SetTable}(h:t.dummies=#[]):t.slot j≠.dummy:=by
 unfold SetTable.slot;dsimp only
 split
 ·simp
 ·rw[if_neg]
  ·simp
  ·unfold SetTable.has;rw[h];simp
theorem ba7(w:t.dummies=#[])(u:Nat):∀ (p:SetTable.Probe),p.dummy=none->∀ j d,SetTable.probe.go t c h u p=some (.empty j d)->t.slot j=.empty/\d=none:=by
 induction u with
 | zero=>intro p Ma j d e;cases e
 | succ u x=>
  intro p Ma j d e
  replace e:(match t.slot p.j with | .empty=>some (SetTable.Met.empty p.j p.dummy) | .dummy=>SetTable.probe.go t c h u (t.advance {p with dummy:=some p.j}) | .live i=>if c i==h then some (.candidate p.j i (t.advance p)) else SetTable.probe.go t c h u (t.advance p))=some (.empty j d):=e
  cases P:t.slot p.j with
  | empty=>rw[P] at e;cases e;exact⟨P,Ma⟩
  | dummy=>exact absurd P (ZP w)
  | live i=>
   rw[P] at e;by_cases Y:(c i==h)=true
   ·exact absurd ((if_pos Y).symm.trans e) (λq=>by cases q)
   ·refine x _ ?_ j d ((if_neg Y).symm.trans e)
    unfold SetTable.advance
    split
    ·exact Ma
    ·exact Ma
theorem Zn{t:SetTable}(c:t.dummies=#[])(e:t.freeSlot h=some (j,b)):t.slot j=.empty:=by
 unfold SetTable.freeSlot at e;cases Ma:t.probe (λz_=>h+1) h (t.probeStart h) with
 | none=>rw[Ma] at e;cases e
 | some m=>
  rw[Ma] at e;cases m with
  | empty q d=>
   refine d5 (ba7 c _ _ rfl _ _ Ma) λZ S=>?_
   clear Ma;subst S;cases e;exact Z
  | candidate q u F=>exact i6 e
theorem TJ{t:SetTable}(h:t.slot j=.empty):t.place[SetTable.below t.place j]?≠some j:=λe=>by
 unfold SetTable.slot at h;dsimp only at h
 rw[if_pos (by rw[e];simp)] at h
 cases h
theorem Kr{t:SetTable}{led:Bool}(R:Tidy t led)(h:t.slot j=.empty):Tidy (t.put j).1 led:=by
 refine⟨QD R.rise (TJ h),?_,R.led⟩;unfold SetTable.put;dsimp only
 rw[if_neg (by unfold SetTable.has;rw[R.nod];simp)]
 exact R.nod
set_option tactic.hygienic true in
theorem Ym{led:Bool}{L:Array (Int×Value)}{h:Int}{x:Value}(ht:Tidy t led):Tidy (layNew t L h x).2.1 led:=by
 unfold layNew
 split
 ·rename_i j b e
  have:=Kr ht (Zn ht.nod e);unfold SetTable.orStandIn;dsimp only
  split
  ·exact this
  ·exact sO this _
 ·exact sO ht _
theorem bu0{z9 q w:Nat}{led:Bool}{A:Array Nat}(e:SetTable.laid z9 q w led C u=some (t,A)):Tidy t led:=by
 unfold SetTable.laid at e;simp only[Option.bind_eq_bind,Option.bind_eq_some_iff,Option.pure_def,Option.some.injEq,Prod.mk.injEq] at e
 obtain⟨c,_,rfl,_⟩:=e;refine⟨?_,rfl,rfl⟩;rw[Z9];simp only[List.map_filterMap]
 show List.Pairwise _ ((cY (z9+1)).filterMap _);refine List.Pairwise.filterMap _ ?_ mQ;intro a b D x U y L;simp only[Option.mem_def,Option.map_map,cL] at U L
 obtain⟨_,_,rfl⟩:=U;obtain⟨_,_,rfl⟩:=L;exact D
set_option tactic.hygienic true in
theorem Jj{t:SetTable}{led:Bool}(ht:Tidy t led):Tidy (relayAll t L n).2.1 led:=by
 unfold relayAll
 split
 ·rename_i q c e
  unfold SetTable.relaid at e;have:=bu0 e;rw[ht.led] at this;dsimp only
  split
  ·exact this
  ·exact sO ht _
 ·exact sO ht _
section
variable{w:World}(knd:PySem.KeyKind prog w Int)
structure SetD(es:Array (Int×Value))(t:SetTable)(led:Bool)(ks:List Int):Prop where
 el:ElemsOf knd es.toList
 mem:∀ k,k∈ks↔∃ e∈es.toList,knd.is k e.2=true
 le:es.size<=ks.length
 fits:t.fits es.size=true
 td:Tidy t led
def v4(h:Heap)(a:Addr)(led:Bool)(ks:List Int):Prop:=
 ∃ o es ep t,h.get? a=some o/\o.ExactSet/\o.data=.set es ep t/\SetD knd es t led ks
variable{knd}{es es':Array (Int×Value)}{t t':SetTable}{led:Bool}{ks:List Int}{k:Int}{x:Value}{a:Addr}{o:Obj}{ep:Nat}
theorem SetD.relay(D:SetD knd es t led ks)(n:Nat):SetD knd (relayAll t es n).1 (relayAll t es n).2.1 led ks:=by
 have p:=relayAll_perm t es n;refine⟨D.el.perm p,λk=>(D.mem k).trans ⟨λq=>a7 q λe c h=>⟨e,p.mem_iff.mpr c,h⟩,λq=>a7 q λe c h=>⟨e,p.mem_iff.mp c,h⟩⟩,?_,relayAll_fits t es n,Jj D.td⟩
 have:=D.le;rw[<- cB] at this ⊢;rw[p.length_eq];exact this
theorem SetD.push(D:SetD knd es t led ks)(K:knd.is k x=true)(P:x.scannable=true):SetD knd (layNew t es (knd.hash k) x).1 (layNew t es (knd.hash k) x).2.1 led (k::ks):=by
 have p:=layNew_perm t es (knd.hash k) x;rw[jk] at p;refine⟨(D.el.push K P).perm p,λj=>⟨λq=>?_,λq=>a7 q λe c h=>?_⟩,?_,layNew_fits ..,Ym D.td⟩
 ·refine(bR.mp q).elim (λq=>⟨_,p.mem_iff.mpr (cU _ (.head _)),q▸K⟩) λq=>a7 ((D.mem j).mp q) λe c h=>⟨e,p.mem_iff.mpr (cV _ c),h⟩
 ·refine(cz.mp (p.mem_iff.mp c)).elim (λq=>.tail _ ((D.mem j).mpr ⟨e,q,h⟩)) λq=>?_
  rw[bV.mp q] at h;rw[knd.inj x j k h K];exact .head _
 ·rw[<- cB,p.length_eq,cC,cB];exact fB D.le
theorem SetD.had(D:SetD knd es t led ks)(h:∃ e∈es.toList,knd.is k e.2=true):SetD knd es t led (k::ks):=
 ⟨D.el,λj=>⟨λq=>(bR.mp q).elim (λq=>q▸h) (D.mem j).mp,λq=>.tail _ ((D.mem j).mpr q)⟩,jl D.le,D.fits,D.td⟩
theorem SetD.off(D:SetD knd es t led ks)(b:Bool):SetD knd es (if b=true then t else{t with plain:=false}) led ks:=by
 cases b with
 | true=>exact D
 | false=>exact⟨D.el,D.mem,D.le,SetTable.fits_plain_off D.fits,D.td.rise,D.td.nod,D.td.led⟩
theorem BZ(q:s.heap.get? a=some o)(Ja:o.ExactSet)(c:o.data=.set es ep t)(D:SetD knd es' t' led ks)(Y:ks.length<scanBound)
  (h:∀ h',Heap.SameBut a s.heap h'->v4 knd h' a led ks->Q () {s with heap:=h'}):wpAny (model prog w) A (storeSet a es' t') Q E s:=by
 refine wpAny_storeSet_of q c (h _ (Heap.SameBut.update s.heap a _) ⟨{o with data:=.set es' (ep+1) t'},es',_,t',?_,Ja,rfl,D⟩) (fits_of_scanBound (dq D.le Y))
 have:=gn (Obj.putSet es' t') q (by rw[putSet_of es' t' c];rfl)
 rw[putSet_of es' t' c] at this;exact this
theorem Dg{u:Type}{c:Prop}[Decidable c]{m n:Sem u}{Q:u->Shared->Prop}(h:wpAny Ma A m Q E s)(h':wpAny Ma A n Q E s):wpAny Ma A (if c then m else n) Q E s:=by
 by_cases q:c
 ·rw[if_pos q];exact h
 ·rw[if_neg q];exact h'
theorem wP{u:Type}{c:Prop}[Decidable c]{m n:Sem u}{Q:u->Shared->Prop}(q:c)(h:wpAny Ma A m Q E s):wpAny Ma A (if c then m else n) Q E s:=by rw[if_pos q];exact h
theorem wN{u:Type}{c:Prop}[Decidable c]{m n:Sem u}{Q:u->Shared->Prop}(q:¬ c)(h:wpAny Ma A n Q E s):wpAny Ma A (if c then m else n) Q E s:=by rw[if_neg q];exact h
theorem HX{g:Bool->Sem Unit}(L:∀ (b:Bool) (sw:Shared) (C:Unit->Shared->Prop),C () sw->wpAny (model prog w) A (g b) C E sw)
  (Ma:s.heap.get? a=some o) (Ja:o.ExactSet) (K:o.data=.set es ep t) (D:SetD knd es' t' led ks) (Y:ks.length<scanBound) 
  (h:∀ h',Heap.SameBut a s.heap h'->v4 knd h' a led ks->R (some true) {s with heap:=h'}) :
  wpAny (model prog w) A (do
    storeSet a es' t'
    if (!c&&t'.tooFull)=true then do
      g (relayAll t' es' (SetTable.grown es'.size)).2.2
      storeSet a (relayAll t' es' (SetTable.grown es'.size)).1 (relayAll t' es' (SetTable.grown es'.size)).2.1
      pure (some true)
     else pure (some true)) R E s:=by
 exact oM (BZ Ma Ja K D Y λZ F T=>Dg (oM (L _ _ _ (X5 T λP N N N u q y N=>oM (BZ (s:={s with heap:=Z}) u q y (D.relay _) Y λS I H=>oN (h S (F.trans I) H))))) (oN (h Z F T)))
theorem Zw(K:knd.is k x=true)(P:x.scannable=true)(y:s.heap.get? a=some o)(Ja:o.ExactSet)(u:o.data=.set es ep t)(D:SetD knd es t led ks)(Y:ks.length+1<scanBound)
  (h:∀ b h',Heap.SameBut a s.heap h'->v4 knd h' a led (k::ks)->R (some b) {s with heap:=h'}):wpAny (model prog w) A (setAddByScan a x (knd.hash k) es t) R E s:=by
 unfold setAddByScan;refine oM (wpAny_rule (oM (wpAny_setScan_of K y u D.fits D.el ?_)));generalize I:List.findIdx? (λe=>knd.is k e.2) es.toList=r
 cases r with
 | some j=>
  exact oN (h false s.heap (Heap.SameBut.refl a s.heap) ⟨o,es,ep,t,y,Ja,u,D.had (a7 (List.findIdx?_eq_some_iff_getElem.mp I) λO Ma N=>⟨_,fL O,Ma⟩)⟩)
 | none=>
  have c:∀ (b:Bool) (q:Shared) (F:Unit->Shared->Prop),F () q->wpAny (model prog w) A (match b with | true=>rule "set.scan.the-table-gave-way" | false=>pure ()) F E q:=
   λb q F H=>by cases b<;>first | exact oN H | exact wpAny_rule H
  have C:=D.push K P;generalize layNew t es (knd.hash k) x=L at C ⊢;refine oM (c L.2.2.2 _ _ (Dg (oM ?_) (oM (oN (HX c y Ja u (C.off true) Y (h true))))))
  ·rw[hashByValue_scannable 8 P]
   exact oN (HX c y Ja u (C.off _) Y (h true))
theorem v4.add(K:knd.is k x=true)(u:x.scannable=true)(P:v4 knd s.heap a led ks)(Y:ks.length+1<scanBound)
  (h:∀ b h',Heap.SameBut a s.heap h'->v4 knd h' a led (k::ks)->Q b {s with heap:=h'}):wpAny (model prog w) A (setAddHashed a x (knd.hash k)) Q E s:=by
 refine X5 P λo es ep t q Ja c D=>?_
 unfold setAddHashed setAddHashedIn;refine oX (oM (wpAny_setState_of q c D.fits ?_));dsimp only
 rw[byScan_of u (dq D.le (Nat.lt_of_succ_lt Y)) D.el];simp only[↓reduceIte]
 exact oM (Zw K u q Ja c D Y λb h' Y F=>oN (h b h' Y F))
end
set_option maxHeartbeats 4000000
set_option maxRecDepth 100000
section
variable{w:World}{knd:PySem.KeyKind prog w Int}
noncomputable def r8(w:World):Bool:=!w.params.followText "set-order"
def uA(knd:PySem.KeyKind prog w Int)(v:Value)(k:Int):Prop:=knd.is k v=true/\v.scannable=true
theorem v4.keep{led:Bool}(x:v4 knd h a led ks)(k:∀ o,h.get? a=some o->h'.get? a=some o):v4 knd h' a led ks:=
 X5 x λo L ep t c r1 r2 K=>⟨o,L,ep,t,k o c,r1,r2,K⟩
theorem L4{id:String}{B:Builtin}{args:Args}(c:entryFor table id=some B)(Ma:plainId id=true)(h:wpAny (model prog w) A.in1 (B args) (λfin s'=>match fin with | .done f=>R (.ok f) s' | .again T=>T.quiet=true/\codeAny (model prog w) A T R s') (λe s'=>R (.error e) s') s) :
  codeAny (model prog w) A (.builtin id args) R s:=by
 refine codeAny_builtin c ?_;rw[Around.under_plainId Ma _];exact h
theorem Nu{X:List Addr}{G:Array GenState->Array GenState->Prop}{n:Nat}{P:Nat->Value->Prop}{St:Nat->Shared->Prop}(W:WalksS prog w A.in1 I fp X G n P St)(S:Addr)(u:S∉fp){led:Bool} 
  (val:Nat->Int) (q:∀ i v,P i v->uA knd v (val i)) (Y:n+1<scanBound) :
  ∀ (k i:Nat) (s:Shared) (C:List Int),n-i=k->i<=n->C.length<=i->St i s->v4 knd s.heap S led C->
   (∀ c,Moved (S::X) G s c->v4 knd c.heap S led (((mR i k).map val).reverseAux C)->R (.ok (.ret .none)) c)->
   codeAny (model prog w) A (.builtin "set.update.loop" ⟨[.ref S,.ref I],[]⟩) R s:=by
 have D:S∉X:=λh=>u (W.sub _ h)
 have U:∀ b∈X,b∈S::X:=λb Y=>dX _ Y
 intro k;induction k with
 | zero=>
  intro i s C K hi F y Z Ma;have hin:i=n:=Bm K hi;subst hin;exact L4 PyProof.Rows.F.entry_set_update_loop PyProof.Rows.F.plain_set_update_loop (oM (m:=pyNext (.ref I)) (W.done s _ _ y λc Q=>oN (Ma c (Q.mono U) (Z.keep λo ho=>Q.heap S _ D ho))))
 | succ k ih=>
  intro i s C K hi F y Z Ma;have O:i<n:=Dj K;refine L4 PyProof.Rows.F.entry_set_update_loop PyProof.Rows.F.plain_set_update_loop (oM (m:=pyNext (.ref I)) (W.item i s _ _ O y λv c hP T Q=>d5 (q i v hP) λx hsc=>?_))
  have hS':=Z.keep λo ho=>Q.heap S _ D ho
  refine oM (m:=holding [v] (setAdd S v)) (oX (oX (oM (knd.pyHash (k:=val i) x (v4.add (s:={c with toks:=c.toks+1}) x hsc hS' (dq (fB (bN F hi)) Y) λb h' Ja hS2=>?_)))))
  refine oN ⟨oZ PyProof.Rows.F.plain_set_update_loop _,ih (i+1) _ (val i::C) (Dy K) O (fB F) (W.frame _ c _ _ T (iZ _) λb Y o e=>?_) hS2 λs'' H L=>?_⟩
  ·rw[Ja.2 b (λh:b=S=>u (by rw[<- h];exact Y))];exact e
  ·refine Ma s'' (Moved.trans W.gtrans ((Q.mono U).then_heap (iZ _) λb o Y e=>?_) H) (by
    rw[List.range'_succ];exact L)
   rw[Ja.2 b (λh:b=S=>Y (by rw[h];exact fX))];exact e
theorem bg6(a:Value)
  (h:R (.ok (.ret (.ref s.heap.objs.size))) {s with heap:=s.heap.push {cls:=.type "set",dict:=none,data:=.set #[] 0 (.fresh 0 0 (r8 w))}}) :
  codeAny (model prog w) A (.call (.builtin "set.__new__") ⟨[.type "set",a],[]⟩) R s:=by
 refine codeAny_of_tree ?_;show wpAny _ A.in1 (do checkBuiltinCall "set.__new__" ⟨[.type "set",a],[]⟩;again (.builtin "set.__new__" ⟨[.type "set",a],[]⟩)) _ _ s
 refine oM (wpAny_of_eq (F.newCall_set_1 a) (oN ⟨oZ F.plain_set_new _,L4 F.entry_set_new F.plain_set_new ?_⟩));unfold Builtin.«set.__new__» Builtin.Frozenset.newClass;have U:=sub_set_self;obtain⟨hp,g,d,tk,os⟩:=s;dsimp only
 wp_walk
 refine wpAny_askSetting (oN ?_);dsimp only
 simp only[newObj]
 exact oM (wpAny_alloc (oN (oN h)))
theorem Ky{led:Bool}(e:h.get? a=some {cls:=.type "set",dict:=none,data:=.set #[] 0 (.fresh 0 0 led)}):v4 knd h a led []:=
 ⟨_,#[],0,_,e,⟨rfl,rfl,rfl⟩,rfl,λe c=>(by cases c),λk=>⟨λq=>(by cases q),λq=>a7 q λe c N=>(by cases c)⟩,cO _,rfl,YL led⟩
theorem Pj(D:s.TypeIs (.ref S) "set")(h:∀ n,Q n s):wpAny (model prog w) A (typeNameOfCut 200 (.ref S)) Q E s:=by
 unfold typeNameOfCut
 wp_walk
 exact h _
theorem Iu(D:s.TypeIs (.ref l) "list")(h:Q false s):wpAny (model prog w) A (Builtin.Frozenset.isAnySet (.ref l)) Q E s:=
 oM (oY D F.sub_list_set (oY D F.sub_list_frozenset h))
theorem aY2{items:Array Value}{led:Bool}(I:A.handled=none)(F:s.heap.get? S=some {cls:=.type "set",dict:=none,data:=.set #[] 0 (.fresh 0 0 led)})(hl:s.heap.IsList l items)(C:l≠S)
  (q:∀ (i:Nat) (v:Value),items[i]?=some v->uA knd v (val i)) (Y:items.size+1<scanBound)
  (h:∀ (h':Heap) (tk:Nat),v4 knd h' S led (((mR 0 items.size).map val).reverseAux [])->(∀ b o,b≠S->s.heap.get? b=some o->h'.get? b=some o)->c (.done (.ret .none)) {s with heap:=h',toks:=tk}) :
  wpAny (model prog w) A (Builtin.«set.__init__» ⟨[.ref S,.ref l],[]⟩) c E s:=by
 have y:l≠s.heap.objs.size:=a7 hl λN e N=>dU (dJ e)
 refine oM (m:=noKeywords "set" ⟨[.ref S,.ref l],[]⟩) (oN (oM (Pj ⟨_,F,rfl⟩ λn=>?_)))
 refine oM (oN (oM (oN (oM (oM (wpAny_setState_of F rfl rfl (oN (wN bU ?_))))))));refine oM (oM (Iu hl.typeIs (wN bU (oM (wpAny_typeOf hl.typeIs (wN (by decide) (oM (wpAny_pyIter_list hl (oM (wpAny_runValue ?_))))))))))
 refine Nu ((Walks.list (A:=A.in1) I _ l y items).toS) S (by simp only[bR,bV,dg,or_false,not_or];exact⟨dU (dJ F),C.symm⟩) (led:=led) val q Y (items.size-0) 0 _ [] rfl (cP _) (cP _)
  ⟨⟨_,cH _ rfl,rfl,rfl⟩,(hl.push _)⟩ (Ky (bZ _ F)) λu D x=>?_
 refine oN ?_;have H:=h u.heap u.toks x λb o Y e=>D.heap b o (by simp only[bR,bV,dg,or_false,not_or];exact⟨Y,dU (dJ e)⟩) (bZ _ e)
 rw[show({s with heap:=u.heap,toks:=u.toks}:Shared)=u from(Moved.eq_with D).symm] at H
 exact oN H
theorem ct4
  (K:A.handled=none) (hl:s.heap.IsList l items) (q:∀ (i:Nat) (v:Value),items[i]?=some v->uA knd v (val i)) (Y:items.size+1<scanBound)
  (h:∀ (h':Heap) (tk:Nat),v4 knd h' s.heap.objs.size (r8 w) (((mR 0 items.size).map val).reverseAux [])->
   (∀ b o,b<s.heap.objs.size->s.heap.get? b=some o->h'.get? b=some o)->Q (.ref s.heap.objs.size) {s with heap:=h',toks:=tk}) :
  wpAny (model prog w) A (call (.type "set") [.ref l]) Q E s:=by
 refine j7 F.called_set.mro λc P y=>?_
 have u:=F.called_set.made;have U:=F.called_set.sub;have Z:=F.called_set.notType;have S:=F.called_set.canCreate;have I:=F.typeCall_set_1 (.ref l);have Ja:=F.called_set.init.lookup;have H:=F.called_set.init.bind (.ref s.heap.objs.size);have x:l≠s.heap.objs.size:=dU (by refine a7 hl λN e N=>?_;exact dJ e)
 have C:(s.heap.push {cls:=.type "set",dict:=none,data:=.set #[] 0 (.fresh 0 0 (r8 w))}).get? s.heap.objs.size=some {cls:=.type "set",dict:=none,data:=.set #[] 0 (.fresh 0 0 (r8 w))}:=cH _ rfl;have D:Shared.TypeIs {s with heap:=s.heap.push {cls:=.type "set",dict:=none,data:=.set #[] 0 (.fresh 0 0 (r8 w))}} (.ref s.heap.objs.size) "set":=⟨_,C,rfl⟩
 refine wpAny_call (codeAny_of_tree ?_);show wpAny _ _ (callAny (.type "set") _) _ _ _;refine oN ⟨Code.quiet_builtin _ (by k_extra"#"),codeAny_builtin F.entry_type_call ?_⟩
 rw[Around.under_plain (weight_type_call_type "set" [.ref l] []) rfl]
 repeat (any_goals (first | assumption | wp_step))
 refine bg6 (.ref l) ?_
 repeat (any_goals (first | assumption | wp_step))
 refine codeAny_call_builtin F.called_set.init.plain F.entry_set_init (check_set_init_1 D (aY2 (A:=A.in1.in1) K C (hl.push _) x q Y λh' tk L Ma=>?_))
 have O:=h h' tk L λb o Y e=>Ma b o (dU Y) (bZ _ e)
 clear h K hl q Y x C D L Ma u y Z S I Ja H;dsimp only at O ⊢
 repeat (any_goals (first | assumption | wp_step))
end
theorem qC:Slot "set_iterator" "__next__" "set_iterator.__next__":=
 .of (owner:="set_iterator") (n:="__next__") (by rw[typeLookup_type,builtinLookup_eq_fast];kernel_rfl) (by k_extra"#") (by k_extra"#") (by k_extra"#")
  (by first | exact .inl (by k_extra"#") | exact .inr (by k_extra"#")) (by rw[isSubtype_type];kernel_rfl)
theorem Vf:entryFor table "set_iterator.__next__" = some Builtin.«set_iterator.__next__»:=entryFor_of_tree (by kernel_rfl)
section
variable{Ma:Model}
theorem bo8(u:n≠0)(h:∀ i w,i<n->Q i {s with drawn:=w}):wpAny Ma A (choose q n) Q E s:=λc p x=>by
 exact⟨u,h _ _ (Nat.mod_lt _ (Nat.pos_of_ne_zero u))⟩
theorem Fe{q:Type}{l:List q}:∀ {i:Nat} (h:i<l.length),(l[i]::l.eraseIdx i).Perm l:=by
 induction l with
 | nil=>intro i h;cases h
 | cons x u c=>
  intro i h;cases i with
  | zero=>exact .refl _
  | succ i=>exact(List.Perm.swap _ _ _).trans ((c (ju h)).cons x)
theorem Yh{w:Type}(n:Nat):∀ (c:List w) {s:Shared} {Q:List w->Shared->Prop},c.length=n->(∀ l q,l.Perm c->Q l {s with drawn:=q})->wpAny Ma A (drawOrder n c) Q E s:=by
 induction n with
 | zero=>
  intro c s Q hl h;obtain rfl:=fP.mp hl;exact oN (a:=[]) (h [] s.drawn (.refl _))
 | succ n C=>
  intro c s Q hl h;cases c with
  | nil=>cases hl
  | cons x c=>
   show wpAny Ma A (choose .order (x::c).length >>= _) Q E s;refine oM (bo8 (jB _) λi q hi=>?_)
   rw[bO hi];exact oM (C ((x::c).eraseIdx i) (s:={s with drawn:=q}) (by rw[kW hi];exact Nat.succ.inj hl) λl u y=>oN (h _ u ((y.cons _).trans (Fe hi))))
end
theorem bQ8{next:Nat->Nat}(fuel:Nat):∀ (k:Nat) (left:List α) (out:Array α),left.length=fuel->(pickOrder.go next fuel k left out).toList.Perm (out.toList++left):=by
 induction fuel with
 | zero=>
  intro k left out h;obtain rfl:=fP.mp h;rw[dC];exact .refl _
 | succ fuel ih=>
  intro k left out h;have hi:next k%left.length<left.length:=Nat.mod_lt _ (by rw[h];exact Nat.succ_pos _)
  have e:pickOrder.go next (fuel+1) k left out=pickOrder.go next fuel (k+1) (left.eraseIdx (next k%left.length)) (out.push left[next k%left.length]):=by
   show(match left[next k%left.length]? with | some x=>pickOrder.go next fuel (k+1) (left.eraseIdx (next k%left.length)) (out.push x) | none=>out)=_
   rw[bO hi]
  rw[e];refine(ih (k+1) _ _ (by rw[kW hi,h];rfl)).trans ?_
  rw[jk,dB];exact List.Perm.append_left _ (Fe hi)
theorem bs9(next:Nat->Nat)(xs:Array α):(pickOrder next xs).toList.Perm xs.toList:=by
 have:=bQ8 (next:=next) xs.size 0 xs.toList #[] (by simp)
 simpa[pickOrder] using this
noncomputable def x9(fst:Value)(i:Nat)(a:Addr)(n ep:Nat):Obj:={cls:=.type "set_iterator",data:=.fields #[fst,rawInt i,.ref a,rawInt n,rawInt ep]}
theorem MN(a:Value):argsOk "set_iterator.__next__" ⟨[a],[]⟩:=by unfold argsOk;kernel_rfl
noncomputable def XQ(I a:Addr)(i ep:Int)(fst:Value):Sem PySem.Fin:=match fst with
 | .int slot _=>do
  match <- setNext a slot.toNat i.toNat ep.toNat with
  | some (x,next)=>
   setField (.ref I) 0 (rawInt next)
   setField (.ref I) 1 (rawInt (i+1))
   ret x
  | none=>setField (.ref I) 2 .none;raiseNew (<- newExc (.type "StopIteration") [])
 | _=>do
  let some places <- seqItems? fst | unsupported "internal:set_iterator"
  match places[i.toNat]? with
  | some (.int place _)=>
   let x <- setNextDrawn a place.toNat ep.toNat
   setField (.ref I) 1 (rawInt (i+1))
   ret x
  | some _=>unsupported "internal:set_iterator"
  | none=>setField (.ref I) 0 (rawInt 0);setField (.ref I) 2 .none;raiseNew (<- newExc (.type "StopIteration") [])
section
variable{w:World}{I a:Addr}{o:Obj}{es:Array (Int×Value)}{ep i:Nat}{t:SetTable}{fst:Value}{Q:Option Value->Shared->Prop}
theorem qx(hI:s.heap.get? I=some (x9 fst i a es.size ep))(ha:s.heap.get? a=some o)(hd:o.data=.set es ep t)(hf:t.fits es.size=true)
  (h:wpAny (model prog w) A.in1 (XQ I a i ep fst) (λfin s'=>∃ x,fin=.done (.ret x)/\Q (some x) s') (λe s'=>s'.TypeIs e "StopIteration"/\Q none s') s) :
  wpAny (model prog w) A (pyNext (.ref I)) Q E s:=by
 have hT:s.TypeIs (.ref I) "set_iterator":=⟨_,hI,rfl⟩;have hb:wpAny (model prog w) A.in1 (Builtin.«set_iterator.__next__» ⟨[.ref I],[]⟩) (λfin s'=>∃ x,fin=.done (.ret x)/\Q (some x) s') (λe s'=>s'.TypeIs e "StopIteration"/\Q none s') s:=
  oM (m:=slotArgs "__next__" 0 ⟨[.ref I],[]⟩) (oN (oM (wpAny_fieldsOf hI rfl (oM (wpAny_setEntries_of ha hd hf (wN (by simp) h))))))
 exact oM (wpAny_attempt (wpAny_callSpecial?_slot (name:=bM "__next__") hT qC (wpAny_call_entry qC hT Vf (oO hb (λfin s' q=>a7 q λx e q=>⟨x,e,oN q⟩) λe s' q=>oM (oY q.1 isSubtype_stop (oN q.2))) (MN _))))
theorem XF{Q:Value->Shared->Prop}(Ma:s.heap.get? a=some o)(c:o.data=.set es ep t)(T:t.fits es.size=true)(U:es[p]?=some (Z,x))(h:Q x s):wpAny (model prog w) A (setNextDrawn a p ep) Q E s:=by
 refine oM (wpAny_setState_of Ma c T (wN (by simp) ?_))
 rw[U];exact oN h
theorem Wy{ps:List Nat}(hI:s.heap.get? I=some (x9 (.ref tp) i a es.size ep))
  (ha:s.heap.get? a=some o) (hd:o.data=.set es ep t) (hf:t.fits es.size=true) (htp:s.heap.get? tp=some {cls:=.type "tuple",data:=.seq (ps.map fun(k:Nat)=>rawInt k).toArray})
  (hp:ps[i]?=some p) (hx:es[p]?=some (h1,x))
  (hQ:∀ h',h'.get? I=some (x9 (.ref tp) (i+1) a es.size ep)->Heap.SameBut I s.heap h'->Q (some x) {s with heap:=h'}):wpAny (model prog w) A (pyNext (.ref I)) Q E s:=by
 refine qx hI ha hd hf (oM (wpAny_seqItems htp rfl ?_));have hps:((ps.map fun(k:Nat)=>rawInt k).toArray)[((i:Int)).toNat]?=some (rawInt p):=by
  simp[hp]
 dsimp only
 rw[hps];exact oM (XF (p:=p) ha hd hf hx (oM (wpAny_setField_rec hI (by simp) λh' hI' hs'=>oN ⟨_,rfl,hQ h' hI' hs'⟩)))
theorem En{nx:Nat}(hI:s.heap.get? I=some (x9 (rawInt slot) i a es.size ep))
  (ha:s.heap.get? a=some o) (hd:o.data=.set es ep t) (hf:t.fits es.size=true)
  (hn:∀ (Q':Option (Value×Nat)->Shared->Prop) (E':Value->Shared->Prop),Q' (some (x,nx)) s->wpAny (model prog w) A.in1 (setNext a slot i ep) Q' E' s)
  (hQ:∀ h',h'.get? I=some (x9 (rawInt nx) (i+1) a es.size ep)->Heap.SameBut I s.heap h'->Q (some x) {s with heap:=h'}):wpAny (model prog w) A (pyNext (.ref I)) Q E s:=
 qx hI ha hd hf (oM (hn _ _ (oM (wpAny_setField_rec hI (by simp) λh' hI' hs'=>oM (wpAny_setField_rec (s:={s with heap:=h'}) hI' (by simp) λh'' hI'' hs''=>oN ⟨_,rfl,hQ h'' hI'' (hs'.trans hs'')⟩)))))
theorem Sy(q:A.handled=none){Q:PySem.Fin->Shared->Prop}(h:∀ (h':Heap) (e:Addr) (o:Obj),(∀ b c,s.heap.get? b=some c->h'.get? b=some c)->h'.get? e=some o->o.cls=.type "StopIteration"->E (.ref e) {s with heap:=h'}) :
  wpAny (model prog w) A (do raiseNew (<- newExc (.type "StopIteration") [])) Q E s:=by
 show wpAny _ _ (newExc (.type "StopIteration") [] >>= _) _ _ _;refine oM ?_;simp only[newExc,newTuple]
 refine oM (oV ?_ (by size_fits))
 refine oM (m:=firstArgMember _ _) (wpAny_of_eq (a:=Value.none) (by first | rfl | (simp only[firstArgMember];rfl)) ?_)
 refine oV ?_ (by size_fits)
 unfold raiseNew;refine oM (wpAny_handled ?_);rw[q];exact oM (oN (wpAny_throw (h _ _ _ (λb o e=>bZ _ (bZ _ e)) (cH _ rfl) rfl)))
theorem Fy{R:PySem.Fin->Shared->Prop}(C:A.handled=none)(P:Heap.SameBut I s.heap c)(x:∀ h',Heap.ExtBut I s.heap h'->Q none {s with heap:=h'}) :
  wpAny (model prog w) A.in1 (do raiseNew (<- newExc (.type "StopIteration") [])) R (λe q=>q.TypeIs e "StopIteration"/\Q none q) {s with heap:=c}:=
 Sy (A:=A.in1) C λh' e F U y O=>⟨⟨F,y,O⟩,x h' λb D Y u=>U b D ((P.2 b Y).trans u)⟩
theorem zj(hh:A.handled=none)(hI:s.heap.get? I=some (x9 (rawInt slot) i a es.size ep))(ha:s.heap.get? a=some o)(hd:o.data=.set es ep t)(hf:t.fits es.size=true)
  (hn:∀ (Q':Option (Value×Nat)->Shared->Prop) (E':Value->Shared->Prop),Q' none s->wpAny (model prog w) A.in1 (setNext a slot i ep) Q' E' s)
  (hQ:∀ h',Heap.ExtBut I s.heap h'->Q none {s with heap:=h'}):wpAny (model prog w) A (pyNext (.ref I)) Q E s:=
 qx hI ha hd hf (oM (hn _ _ (oM (wpAny_setField_rec hI (by simp) λh' hI' hs'=>Fy (s:=s) hh hs' hQ))))
theorem JX{ps:Array Value}(hh:A.handled=none)(hI:s.heap.get? I=some (x9 (.ref tp) i a es.size ep))(ha:s.heap.get? a=some o)(hd:o.data=.set es ep t)(hf:t.fits es.size=true)
  (htp:s.heap.get? tp=some {cls:=.type "tuple",data:=.seq ps}) (hps:ps.size<=i)
  (hQ:∀ h',Heap.ExtBut I s.heap h'->Q none {s with heap:=h'}):wpAny (model prog w) A (pyNext (.ref I)) Q E s:=by
 refine qx hI ha hd hf (oM (wpAny_seqItems htp rfl ?_));dsimp only
 rw[show ps[((i:Int)).toNat]?=none by simp;exact hps]
 exact oM (wpAny_setField_rec hI (by simp) λh' hI' hs'=>oM (wpAny_setField_rec (s:={s with heap:=h'}) hI' (by simp) λh'' hI'' hs''=>Fy (s:=s) hh (hs'.trans hs'') hQ))
end
theorem Mp:entryFor table "set.__iter__" = some Builtin.«frozenset.__iter__»:=
 entryFor_alias (id':="frozenset.__iter__") (by kernel_rfl) rfl (by k_extra"#") (by kernel_rfl)
theorem Gh:Slot "set_iterator" "__iter__" "set_iterator.__iter__":=
 .of (owner:="set_iterator") (n:="__iter__") (by rw[typeLookup_type,builtinLookup_eq_fast];kernel_rfl) (by k_extra"#") (by k_extra"#") (by k_extra"#")
  (by first | exact .inl (by k_extra"#") | exact .inr (by k_extra"#")) (by rw[isSubtype_type];kernel_rfl)
theorem Zm:entryFor table "set_iterator.__iter__" = some Builtin.«dict_keyiterator.__iter__»:=
 entryFor_alias (id':="dict_keyiterator.__iter__") (by kernel_rfl) rfl (by k_extra"#") (by kernel_rfl)
theorem Yw(a:Value):argsOk "set_iterator.__iter__" ⟨[a],[]⟩:=by unfold argsOk;kernel_rfl
section
variable{w:World}{I a:Addr}{o:Obj}{es:Array (Int×Value)}{ep i:Nat}{t:SetTable}
theorem sY(h:Q (!r8 w) s):wpAny (model prog w) A setsByText Q E s:=by
 unfold setsByText;refine oM (wpAny_askSetting (oN ?_));unfold r8 at h;rw[oG] at h;exact h
theorem HF(h:r8 w=false):(!r8 w)=true:=by rw[h];rfl
theorem Jx(h:r8 w=true):¬ (!r8 w)=true:=by rw[h];exact bU
theorem Xd(S:r8 w=false)(Ma:s.heap.get? a=some o)(c:o.data=.set es ep t)(T:t.fits es.size=true)(h:Q (pickOrder (w.params.setOrder a ep) es) s):wpAny (model prog w) A (setWalk a) Q E s:=
 oM (wpAny_setState_of Ma c T (oM (sY (wP (HF S) (oM (wpAny_askSetting (oN h)))))))
theorem xF(S:r8 w=false)(Ma:s.heap.get? a=some o)(c:o.data=.set es ep t)(T:t.fits es.size=true)
  (h:Q (((pickOrder (w.params.setOrder a ep) es)[i]?).map λe=>(e.2,slot)) s):wpAny (model prog w) A (setNext a slot i ep) Q E s:=
 oM (wpAny_setState_of Ma c T (oM (sY (wP (HF S) (wN (by simp) (oM (Xd S Ma c T (oN h))))))))
theorem Ek(T:t.fits es.size=true):t.place.size=es.size:=by
 unfold SetTable.fits at T;exact beq_iff_eq.mp (dw.mp T).1
theorem Dt(S:r8 w=true)(Ma:s.heap.get? a=some o)(q:o.data=.set es ep t)(T:t.fits es.size=true)
  (R:Tidy t true) (c:(!t.plain&&decide (es.size > 1))=false) (u:SetTable.below t.place slot=i)
  (h:Q (match es[i]?,t.place[i]? with | some (_,x),some j=>some (x,j+1) | _,_=>none) s):wpAny (model prog w) A (setNext a slot i ep) Q E s:=by
 refine oM (wpAny_setState_of Ma q T (oM (sY (wN (Jx S) (wN (λe=>bU (c.symm.trans e)) (oM (wN (by rw[R.led];exact bU) (oN (oN ?_)))))))))
 rw[u];exact h
end
def U1:Array GenState->Array GenState->Prop:=λa b=>b=a
def Q8(I a:Addr)(o:Obj)(n ep:Nat)(X:List (Addr×Obj))(C:Nat->Value->Prop)(i:Nat)(s:Shared):Prop:=
 s.heap.get? a=some o/\(∀ p∈X,s.heap.get? p.1=some p.2)/\∃ c,C i c/\s.heap.get? I=some (x9 c i a n ep)
section
variable{w:World}{I a:Addr}{o:Obj}{es:Array (Int×Value)}{ep:Nat}{t:SetTable}
theorem ci9(c:s.heap.get? I=some o)(O:o.cls=.type "set_iterator")(h:Q (.ref I) s):wpAny (model prog w) A (pyIter (.ref I)) Q E s:=by
 have D:s.TypeIs (.ref I) "set_iterator":=⟨_,c,O⟩;refine wpAny_pyIter_slot D Gh (wpAny_call_entry Gh D Zm ?_ (Yw _));show wpAny _ _ (ret (.ref I)) _ _ s;exact oN ⟨_,rfl,"set_iterator",_,D,qC.lookup,h⟩
theorem Q8.el{X:List (Addr×Obj)}(h:Q8 I a o n ep X C i s){P:Prop}(k:s.heap.get? a=some o->(∀ p∈X,s.heap.get? p.1=some p.2)->∀ c,C i c->s.heap.get? I=some (x9 c i a n ep)->P):P:=by
 obtain⟨Z,S,c,O,q⟩:=h;exact k Z S c O q
theorem vf{L:List Value}(X:List (Addr×Obj))(C:Nat->Value->Prop)(hIa:I≠a)(hX:∀ p∈X,p.1≠I)
  (item:∀ (i:Nat) (s:Shared) (fst:Value) (x:Value) (Q:Option Value->Shared->Prop) (E:Value->Shared->Prop),L[i]?=some x->C i fst->s.heap.get? I=some (x9 fst i a es.size ep)->s.heap.get? a=some o->(∀ p∈X,s.heap.get? p.1=some p.2)->
   (∀ h' fst',C (i+1) fst'->h'.get? I=some (x9 fst' (i+1) a es.size ep)->Heap.SameBut I s.heap h'->Q (some x) {s with heap:=h'})->wpAny (model prog w) A (pyNext (.ref I)) Q E s)
  (done:∀ (s:Shared) (fst:Value) (Q:Option Value->Shared->Prop) (E:Value->Shared->Prop),C L.length fst->s.heap.get? I=some (x9 fst L.length a es.size ep)->s.heap.get? a=some o->(∀ p∈X,s.heap.get? p.1=some p.2)->
   (∀ h',Heap.ExtBut I s.heap h'->Q none {s with heap:=h'})->wpAny (model prog w) A (pyNext (.ref I)) Q E s) :
  WalksS prog w A I (I::a::X.map (·.1)) [I] U1 L.length (λi v=>L[i]?=some v) (Q8 I a o es.size ep X C) where
 sub:=λb hb=>by rw[bV.mp hb];exact .head _
 grefl:=λN=>rfl
 gtrans:=λN N N x y=>y.trans x
 frame:=λi s h' tk p0 N hk=>p0.el λh1 h2 fst hc h3=>⟨hk a (.tail _ (.head _)) _ h1,λp hp=>hk p.1 (.tail _ (.tail _ (cD.mpr ⟨p,hp,rfl⟩))) _ (h2 p hp),fst,hc,hk I (.head _) _ h3⟩
 item:=λi s Q E hi p0 hQ=>p0.el λh1 h2 fst hc h3=>item i s fst L[i] Q E (bO hi) hc h3 h1 h2 λh' fst' hc' h3' hs=>
  hQ _ _ (bO hi) ⟨(hs.2 a hIa.symm).trans h1,λp hp=>(hs.2 p.1 (hX p hp)).trans (h2 p hp),fst',hc',h3'⟩ ⟨λb ob hb e=>(hs.2 b λq=>hb (bV.mpr q)).trans e,rfl,rfl,rfl,cO _⟩
 done:=λs Q E p0 hQ=>p0.el λh1 h2 fst hc h3=>done s fst Q E hc h3 h1 h2 λh' hs=>hQ _ ⟨λb ob hb e=>hs b ob (λq=>hb (bV.mpr q)) e,rfl,rfl,rfl,cO _⟩
 self:=λi s Q E p0 hQ=>p0.el λh1 h2 fst hc h3=>ci9 h3 rfl hQ
theorem Ha{q c:Type}{xs:Array (q×c)}{i:Nat}{x:c}(h:(xs.toList.map (·.2))[i]?=some x):∃ y,xs[i]?=some (y,x):=by
 rw[bW,cM] at h;exact a7 (cL.mp h) λp Ma e=>⟨p.1,by rw[Ma,<- e]⟩
theorem zX{q c:Type}{xs:Array (q×c)}:xs[(xs.toList.map (·.2)).length]?=none:=by
 rw[bQ,cB];exact jr (cO _)
def C0(_:Nat)(c:Value):Prop:=c=rawInt (0:Nat)
def CT(t:SetTable)(i:Nat)(q:Value):Prop:=∃ c:Nat,q=rawInt c/\SetTable.below t.place c=i
def CP(q:Addr)(_:Nat)(c:Value):Prop:=c=.ref q
theorem co8(R:A.handled=none)(D:I≠a)(S:r8 w=false)(c:o.data=.set es ep t)(T:t.fits es.size=true) :
  WalksS prog w A I [I,a] [I] U1 ((pickOrder (w.params.setOrder a ep) es).toList.map (·.2)).length (λi v=>((pickOrder (w.params.setOrder a ep) es).toList.map (·.2))[i]?=some v) (Q8 I a o es.size ep [] C0):=
 vf [] C0 D (λN h=>by cases h)
  (λi s q x Q E U O C Z N F=>by
   subst O;exact d4 (Ha U) λy Ma=>En (slot:=0) (nx:=0) C Z c T (λK Ja H=>xF S Z c T (by rw[Ma];exact H)) λL u P=>F L _ rfl u P)
  (λs q Q E O C Z N F=>by
   subst O;exact zj R C Z c T (λK Ja H=>xF S Z c T (by rw[zX];exact H)) F)
theorem bc6(X:A.handled=none)(H:I≠a)(S:r8 w=true)(R:Tidy t true)(c:(!t.plain&&decide (es.size > 1))=false)(q:o.data=.set es ep t)(T:t.fits es.size=true) :
  WalksS prog w A I [I,a] [I] U1 (es.toList.map (·.2)).length (λi v=>(es.toList.map (·.2))[i]?=some v) (Q8 I a o es.size ep [] (CT t)):=
 vf [] (CT t) H (λN h=>by cases h)
  (λi s u x Q E hx O F Z N Ja=>a7 O λslot e Y=>by
   subst e;refine d4 (Ha hx) λy Ma=>?_
   have C:=eE (vq (Ek T) (fJ.mp Ma).1);exact En (slot:=slot) (nx:=t.place[i]'(vq (Ek T) (fJ.mp Ma).1)+1) F Z q T (λP L K=>Dt S Z q T R c Y (by rw[Ma,C];exact K)) λU D hs=>Ja U _ ⟨_,rfl,cf7 R.rise C⟩ D hs)
  (λs u Q E O F Z N Ja=>a7 O λslot e Y=>by
   subst e;exact zj X F Z q T (λP L K=>Dt S Z q T R c Y (by rw[zX];exact K)) Ja)
theorem SM{ps:List Nat}{L:List Value}(X:A.handled=none)(H:I≠a)(c:q≠I)(Ma:o.data=.set es ep t)(T:t.fits es.size=true)(hL:L.length=ps.length)
  (K:∀ (i:Nat) x,L[i]?=some x->∃ p Y,ps[i]?=some p/\es[p]?=some (Y,x)) :
  WalksS prog w A I [I,a,q] [I] U1 L.length (λi v=>L[i]?=some v)
   (Q8 I a o es.size ep [(q,({cls:=.type "tuple",data:=.seq (ps.map fun(k:Nat)=>rawInt k).toArray}:Obj))] (CP q)):=
 vf [(q,{cls:=.type "tuple",data:=.seq (ps.map fun(k:Nat)=>rawInt k).toArray})] (CP q) H (λp h=>by rw[bV.mp h];exact c)
  (λi s u x Q E U O F Z S Ja=>by
   subst O;exact i5 (K i x U) λp Y R C=>Wy F Z Ma T (S _ (.head _)) R C λy D P=>Ja y _ rfl D P)
  (λs u Q E O F Z S Ja=>by
   subst O;exact JX X F Z Ma T (S _ (.head _)) (by rw[hL,iD,bQ];exact cO _) Ja)
end
theorem wU{c:Type}{P:c->Prop}{x y:c}(h:P x)(k:P y):∀ b∈[x,y],P b:=λb q=>(bR.mp q).elim (λe=>e▸h) λq=>bV.mp q▸k
theorem cu7{c:Type}{P:c->Prop}{x y z:c}(h:P x)(k:P y)(l:P z):∀ b∈[x,y,z],P b:=λb q=>(bR.mp q).elim (λe=>e▸h) λq=>wU k l b q
noncomputable def tuO(ps:List Nat):Obj:={cls:=.type "tuple",data:=.seq (ps.map fun(k:Nat)=>rawInt k).toArray}
noncomputable def atE(L:Array (Int×Value))(p:Nat):Value:=((L[p]?).map (·.2)).getD .none
theorem Zk(h:p<L.size):∃ Y,L[p]?=some (Y,atE L p):=⟨L[p].1,by unfold atE;rw[eE h];rfl⟩
theorem bk5(L:Array (Int×Value)):(cY L.size).map (atE L)=L.toList.map (·.2):=by
 k_extra"cZ"
 simp at h1
 simp[atE,h1]
section
variable{w:World}
theorem zg{o:Obj}{L:Array (Int×Value)}{ep:Nat}{t:SetTable}{first:Value}{Q:Value->Shared->Prop}(Ma:s.heap.get? a=some o)(u:o.data=.set L ep t)(T:t.fits L.size=true)(h:Q (.ref s.heap.objs.size) {s with heap:=s.heap.push (x9 first 0 a L.size ep)}) :
  wpAny (model prog w) A (do ret (<- newFields "set_iterator" [first,rawInt 0,.ref a,rawInt L.size,rawInt (<- setEpoch a)])) (λfin q=>∃ v,fin=.done (.ret v)/\∃ c r,q.TypeIs v c/\typeLookup (.type c) (bM "__next__")=pure (some r)/\Q v q) E s:=
 oM (wpAny_setEpoch_of Ma u T (oM (oV (oN ⟨_,rfl,"set_iterator",_,⟨_,cH _ rfl,rfl⟩,qC.lookup,h⟩) (by size_fits))))
theorem ck1{o:Obj}{u:Array (Int×Value)}{ep:Nat}{t:SetTable}(Ma:s.heap.get? a=some o)(hc:o.cls=.type "set")(D:o.data=.set u ep t)(T:t.fits u.size=true)(R:Tidy t (r8 w))(hz:u.size<=4096)
  (h:∀ (I:Addr) (Z:List Addr) (L:List Value) (c:Nat->Shared->Prop) (h':Heap) (Ja:Drawn),(∀ H:Around,H.handled=none->WalksS prog w H I Z [I] U1 L.length (λi v=>L[i]?=some v) c)->c 0 {s with heap:=h',drawn:=Ja}->
   (∀ b U,s.heap.get? b=some U->h'.get? b=some U)->s.heap.get? I=none->L.Perm (u.toList.map (·.2))->(∀ b∈Z,b=a∨s.heap.get? b=none)->Q (.ref I) {s with heap:=h',drawn:=Ja}) :
  wpAny (model prog w) A (pyIter (.ref a)) Q E s:=by
 have hT:s.TypeIs (.ref a) "set":=⟨_,Ma,hc⟩;have O:=gk (dJ Ma);have P:s.heap.get? s.heap.objs.size=none:=I9 (cO _);refine wpAny_pyIter_slot hT F.slot_set_iter (wpAny_call_entry F.slot_set_iter hT Mp ?_ (F.args_set_iter_1 _));refine oM (m:=Builtin.Frozenset.slot0 "__iter__" ⟨[.ref a],[]⟩) (oN (oM (oM (wpAny_setEntries_of Ma D T (oN (oM (oM (wpAny_setState_of Ma D T (oM (sY (oN ?_)))))))))));by_cases y:(!!r8 w&&(!t.plain&&decide (u.size > 1)))=true
 ·refine wP y (oM (Yh u.size (cY u.size) dM λps Ja X=>oM (oV (zg (s:={s with heap:=s.heap.push (tuO ps),drawn:=Ja}) (bZ _ Ma) D T ?_) ?_)))
  ·have q:(s.heap.push (tuO ps)).objs.size=s.heap.objs.size+1:=ni ..
   have C:s.heap.get? (s.heap.push (tuO ps)).objs.size=none:=I9 (by rw[q];exact iZ _)
   exact h _ [(s.heap.push (tuO ps)).objs.size,a,s.heap.objs.size] (ps.map (atE u)) _ _ Ja
    (λH K=>SM (ps:=ps) K (gk (by rw[q];exact lw (dJ Ma))) (dU (by rw[q];exact gF _)) D T (bQ _) λi x hx=>by
     rw[bW] at hx;exact a7 (cL.mp hx) λp hq e=>d4 (Zk (dY.mp (X.mem_iff.mp (cA hq)))) λh0 e1=>⟨p,h0,hq,by rw[e1,e]⟩)
    ⟨bZ _ (bZ _ Ma),λp Y=>by rw[bV.mp Y];exact bZ _ (cH _ rfl),_,rfl,cH _ rfl⟩
    (λb U e=>bZ _ (bZ _ e)) C ((X.map _).trans (by rw[bk5])) (cu7 (.inr C) (.inl rfl) (.inr P))
  ·show(ps.map fun(k:Nat)=>rawInt k).toArray.size<=sizeLine
   rw[iD,bQ,X.length_eq,dM];exact bN hz (by decide)
 ·refine wN y (oM (oN (zg Ma D T ?_)))
  cases S:r8 w with
  | false=>
   exact h _ [_,a] ((pickOrder (w.params.setOrder a ep) u).toList.map (·.2)) _ _ s.drawn (λH K=>co8 K O S D T) ⟨bZ _ Ma,λz_ h=>(by cases h),_,rfl,cH _ rfl⟩ (λb U e=>bZ _ e) P ((bs9 _ _).map _) (wU (.inr P) (.inl rfl))
  | true=>
   rw[S] at y R;exact h _ [_,a] (u.toList.map (·.2)) _ _ s.drawn (λH K=>bc6 K O S R (Bool.eq_false_iff.mpr y) D T) ⟨bZ _ Ma,λz_ h=>(by cases h),_,⟨0,rfl,Pg R.rise⟩,cH _ rfl⟩ (λb U e=>bZ _ e) P (.refl _) (wU (.inr P) (.inl rfl))
theorem cf6{a:Addr}{id T n:String}{q:PUnit->Sem Bool}{u:Sem PUnit}{Q:Bool->Shared->Prop}(P:splitId id=some (T,n))(D:s.TypeIs (.ref a) T)(U:isSubtype (.type T) (.type T)=pure true)(h:wpAny (model prog w) A (q ⟨⟩) Q E s) :
  wpAny (model prog w) A (match splitId id with | some (c,_)=>(do if !(<- isInstance (.ref a) (.type c)) then(u >>= q) else q ⟨⟩) | _=>q ⟨⟩) Q E s:=by
 rw[P];exact oM (oY D U (wN (by decide) h))
theorem Lr{a:Addr}{Q:Bool->Shared->Prop}(D:s.TypeIs (.ref a) "set")(h:Q false s):wpAny (model prog w) A (Builtin.List.listLengthHint (.ref a)) Q E s:=by
 refine oM (m:=specialOf (.ref a) "__len__") (wpAny_specialOf D F.slot_set_len.lookup (cf6 (id:="set.__len__") (n:="__len__") (by kernel_rfl) D sub_set_self ?_))
 exact wP (by k_extra"#") (oM (wpAny_typeOf D (oN h)))
theorem bM7(h:ItemsOf (λi v=>L[i]?=some v) acc L.length):acc.toList=L:=by
 refine jm λi=>?_
 rw[cM];cases q:acc[i]? with
 | none=>rw[fH (bN (cu h.1.symm) (Array.getElem?_eq_none_iff.mp q))]
 | some v=>rw[h.2 i v q]
theorem RX{ep:Nat}(hh:A.handled=none)(ha:s.heap.get? a=some o)(O:o.cls=.type "set")(hd:o.data=.set R ep t)(hf:t.fits R.size=true)(ht:Tidy t (r8 w))(hz:R.size<=4096)
  (h:∀ (vs:List Value) (s':Shared),vs.Perm (R.toList.map (·.2))->(∀ b c,s.heap.get? b=some c->s'.heap.get? b=some c)->s'.gens=s.gens->s'.os=s.os->Q vs s') :
  wpAny (model prog w) A (collect (.ref a)) Q E s:=by
 have H:=dJ ha;have C:=bZ {cls:=.type "list",data:=.seq ([]:List Value).toArray} ha;have hT:Shared.TypeIs {s with heap:=s.heap.push {cls:=.type "list",data:=.seq ([]:List Value).toArray}} (.ref a) "set":=⟨_,C,O⟩
 have h1:Builtin.List.listSameRef (.ref s.heap.objs.size) (.ref a)=false:=by
  simp[Builtin.List.listSameRef];exact gk H
 refine oM (wpAny_runValue (L4 F.entry_proto_collect F.plain_proto_collect (oM (oV (oN ⟨oZ F.plain_list_iadd _,L4 F.entry_list_iadd F.plain_list_iadd ?_⟩)))));refine oM (m:=typeOf (.ref a)) (wpAny_typeOf hT (wN (by rw[h1];decide) (oM (ck1 C O hd hf ht hz λI fp L St y dr W X K P hp T=>oM (oX (Lr ⟨_,K _ _ C,O⟩ (wP (by k_extra"#") (oM (wpAny_rule (oM ?_))))))))))
 have D:y.get? s.heap.objs.size=some {cls:=.type "list",data:=.seq ([]:List Value).toArray}:=K _ _ (cH _ rfl);have u:s.heap.objs.size∉fp:=λq=>(T _ q).elim (gk H) λe=>by
  rw[cH _ rfl] at e;exact D4 e
 have x:=gn (eO (·.push Value.none)) D rfl
 have Ma:∀ b c,b≠s.heap.objs.size->y.get? b=some c->((y.update s.heap.objs.size (eO (·.push Value.none))).update s.heap.objs.size (eO (·.pop))).get? b=some c:=
  λb c Y e=>(jo _ _ (Ne.symm Y)).trans ((jo _ _ (Ne.symm Y)).trans e)
 have Z:=W A.in1 hh;refine oM (wpAny_updateSeq D rfl (wpAny_updateSeq (hz:=by seq_fits) x rfl (oN ⟨oZ F.plain_extend_loop _,codeAny_extend_loopS Z (by rw[hp.length_eq,bQ,cB];exact bN hz (by decide)) _ u _ L.length 0 _ _ _ rfl (cP _)
  (Z.frame 0 ({s with heap:=y,drawn:=dr}:Shared) _ s.toks X (cO _) λb Y c e=>Ma b c (λq=>u (q▸Y)) e) (gn (eO (·.pop)) x rfl) (ItemsOf.nil _) λs' acc' c' U S Ja=>?_⟩)))
 refine oM (wpAny_load S (oN (h _ s' (by rw[bM7 Ja];exact hp) (λb c e=>?_) U.gens U.os)))
 have Y:b≠s.heap.objs.size:=dU (dJ e);refine U.heap b c (λq=>(bR.mp q).elim Y λq=>?_) (Ma b c Y (K b c (bZ _ e)))
 rw[bV.mp q] at e;exact i6 (P.symm.trans (bZ _ e))
end
open PySem PyProof.Rows
theorem bq4{a b:Str}(h:a.cps.toList=b.cps.toList):a=b:=by
 cases a;cases b;simp at h;rw[h]
section
variable{w:World}
theorem zQ(h:wpAny (model prog w) A.in1 (collect x) (λvs s'=>∃ u,IntsAre vs u/\vs.length<64/\∀ (out:Array Value) (q:List Int),IntsAre out.toList q->q.Perm u->
   Q (.ref s'.heap.objs.size) {s' with heap:=sortedHeap (s'.heap.push (seqObj "list" vs.toArray 0)) s'.heap.objs.size vs out}) E s):wpAny (model prog w) A (call (.builtin "sorted") [x]) Q E s:=by
 k_extra"aL";refine oM (m:=checkCount "sorted" 1 1 _) (oN (oM (oO h (λvs s' c=>f5 c λu C y D=>oM (wpAny_newList ?_ (bN (dK y) (by decide)))) λN N e=>e)))
 k_extra"ad";exact oM (oX (wpAny_call_entry slot_list_sort ⟨_,hoL,rfl⟩ entry_list_sort (list_sort_tree hoL C y λout q a b N=>⟨_,rfl,oN ⟨_,rfl,D out q a b⟩⟩) (args_list_sort _)))
theorem Z4{vs:List Value}{out:Array Value}:Ext s {s with heap:=sortedHeap (s.heap.push (seqObj "list" vs.toArray 0)) s.heap.objs.size vs out}:=
 ⟨λb o e=>by
  have c:=dJ e;rw[sortedHeap_old (dU c) (by rw[size_push'];exact lw c)]
  exact bZ _ e,rfl,rfl⟩
end
theorem Jb{E:List Int}(r:d9 h vs (E.map .int)):IntsAre vs E:=by
 induction E generalizing vs with
 | nil=>rw[r.aA];exact .nil
 | cons n E c=>refine g6 r.aj λv L qa r1 r2=>?_;subst qa;refine d4 r1.ofInt λt qa=>?_;subst qa;exact .cons n t (c r2)
theorem Ij{E:List Int}(r:IntsAre vs E):d9 h vs (E.map .int):=by
 induction r with
 | nil=>exact .nil
 | cons n t r ih=>exact .cons (.int n t) ih
theorem bo6{E:List Int}(r:IntsAre vs E):vs.length=E.length:=by
 induction r with
 | nil=>rfl
 | cons _ _ _ c=>rw[dD,dD,c]
section
variable{g:G}{Q:V->Hp->Prop}
theorem Qh{E:List Int}(c:M a=some (.L (E.map .int)))(u:E.length<64)(h:∀ b (q:List Int),M b=none->q.Perm E->Q (.ref b) (upd M b (.L (q.map .int)))) :
  Cl g F (.builtin "sorted") [.ref a] J M Q X:=(λA env s vs I rs=>by
  k_extra"cF";subst qa
  k_extra"cv";refine a7 (I.sim.objs a _ c).1 λitems Ma r=>?_
  k_extra"bx"
  have U:items.toList.length<64:=by rw[r.length,bQ];exact u
  refine zQ (collect_list hl ⟨_,Jb r,U,λout q y w=>?_⟩ (bN (dK U) (by decide)))
  have x1:Ext s {s with heap:=(s.heap.push (seqObj "list" #[] 0)).update s.heap.objs.size (eO (· ++ items.toList.toArray))}:=⟨λb o e=>by
   k_extra"ai"
   rw[jV _ _ _ _ (dU (dJ e))];exact bZ _ e,rfl,rfl⟩
  refine d4 (sortedHeap_at (out:=out) (vs:=items.toList) (n:=0) (h:=(((s.heap.push (seqObj "list" #[] 0)).update s.heap.objs.size (eO (· ++ items.toList.toArray))).push (seqObj "list" items.toList.toArray 0)))
   (a:=((s.heap.push (seqObj "list" #[] 0)).update s.heap.objs.size (eO (· ++ items.toList.toArray))).objs.size) (cH _ rfl)) λe x=>?_
  refine F3 I (x1.trans Z4) (I9 ?_) x (Ij y) λb Y=>h b q Y w
  rw[Heap.size_update,size_push'];exact iZ _)
theorem Ng:(∀ v∈vs,∃ k,(intKind prog w).is k v=true)->∃ E,IntsAre vs E/\∀ k,k∈E↔∃ v∈vs,(intKind prog w).is k v=true:=by
 induction vs with
 | nil=>exact λN=>⟨[],.nil,λk=>⟨λq=>(by cases q),λq=>a7 q λN q N=>(by cases q)⟩⟩
 | cons v vs u=>
  intro h;refine a7 (u λv c=>h v (.tail _ c)) λE Z S=>d4 (h v (.head _)) λk K=>?_
  refine d4 (Value.isInt_shape K) λt Ja=>?_;subst Ja
  refine⟨k::E,.cons k t Z,λj=>⟨λq=>(bR.mp q).elim (λq=>⟨_,.head _,q▸K⟩) λq=>a7 ((S j).mp q) λv a b=>⟨v,.tail _ a,b⟩,λq=>a7 q λv a b=>(bR.mp a).elim (λe=>?_) λa=>.tail _ ((S j).mpr ⟨v,a,b⟩)⟩⟩
  rw[e] at b;rw[(intKind prog w).inj _ j k b K];exact .head _
theorem YM(I:Inv g F A env J M s)(hh:A.handled=none)(x:Ext s sw)(S:v4 (intKind g.prog g.w) sw.heap c (r8 g.w) ks)(u:ks.length<64)
  (h:∀ b (l:List Int),M b=none->l.length<=ks.length->(∀ y,y∈l↔y∈ks)->Q (.ref b) (upd M b (.L (l.map .int)))) :
  wpAny (model g.prog g.w) A (call (.builtin "sorted") [.ref c]) (l8 g F A env J M s Q) E sw:=by
 refine X5 S λo es ep t ho Ja hd D=>?_
 have U:=dq D.le u;refine zQ (RX (A:=A.in1) hh ho Ja.1 hd D.fits D.td (bN (dK U) (by decide)) λvs T Ma H hg P=>?_)
 have K:vs.length=es.size:=by rw[Ma.length_eq,bQ,cB]
 refine a7 (Ng (prog:=g.prog) (w:=g.w) λv K=>a7 (cD.mp (Ma.mem_iff.mp K)) λe C q=>a7 (D.el e C).1 λk hk N=>⟨k,q▸hk⟩) λns Y hm=>⟨ns,Y,K▸U,λout R O L=>?_⟩
 refine d4 (sortedHeap_at (out:=out) (vs:=vs) (n:=0) (h:=T.heap.push (seqObj "list" vs.toArray 0)) (a:=T.heap.objs.size) (cH _ rfl)) λe C=>?_
 have Z:=x.trans ⟨H,hg,P⟩;refine F3 I (Z.trans Z4) ?_ C (Ij O) λb hb=>h b R hb ?_ λy=>L.mem_iff.trans ((hm y).trans (Iff.trans ⟨λq=>?_,λq=>?_⟩ (D.mem y).symm))
 ·cases q:s.heap.get? T.heap.objs.size with
  | none=>rfl
  | some o=>have:=Z.heap _ _ q;rw[u5] at this;exact i6 this
 ·rw[L.length_eq,<- bo6 Y,K];exact D.le
 ·exact a7 q λv K k=>a7 (cD.mp (Ma.mem_iff.mp K)) λe C q=>⟨e,C,q▸k⟩
 ·exact a7 q λe C k=>⟨_,Ma.mem_iff.mpr (cD.mpr ⟨e,C,rfl⟩),k⟩
end
theorem bc0(l:List Int):(mR 0 l.length).map (λi=>(l[i]?).getD 0)=l:=by
 k_extra"cZ"
 simp[h2]
theorem d9.at_int{ks:List Int}(r:d9 h vs (ks.map .int)){i:Nat}{v:Value}(w:vs[i]?=some v):∃ t,v=.int ((ks[i]?).getD 0) t:=by
 have hi:i<ks.length:=by have:=(cj.mp w).1;rw[r.length,bQ] at this;exact this
 refine a7 (r.get (x:=.int ks[i]) (by rw[bW,bO hi];rfl)) λS e c=>?_
 rw[w] at e;replace e:=d7 e;rw[<- e] at c;rw[bO hi];exact c.ofInt
section
variable{g:G}{Q:V->Hp->Prop}
theorem RL{a:Addr}{ks:List Int}(I:Inv g F A env J M s)(x:A.handled=none)(c:M a=some (.L (ks.map .int)))(u:ks.length<64)
  (h:∀ b (l:List Int),M b=none->l.length<=ks.length->(∀ y,y∈l↔y∈ks)->Q (.ref b) (upd M b (.L (l.map .int)))) :
  wpAny (model g.prog g.w) A (call (.type "set") [.ref a]) (λv T=>wpAny (model g.prog g.w) A (call (.builtin "sorted") [v]) (l8 g F A env J M s Q) E T) E s:=by
 refine a7 ((I.sim.objs a _ c).1) λitems Ma r=>?_
 have q:items.size=ks.length:=by rw[<- cB,r.length,bQ]
 refine ct4 (knd:=intKind g.prog g.w) (val:=λi=>(ks[i]?).getD 0) x Ma.isList (λi v w=>d4 (r.at_int (by rw[cM];exact w)) λt e=>?_) (by rw[q];exact gY (lJ u) (by decide)) λC H S K=>?_
 ·subst e;exact⟨by simp[intKind,Value.isInt],rfl⟩
 rw[q,bc0,<- List.reverse] at S;refine YM I x (sw:={s with heap:=C,toks:=H}) ⟨λb o e=>K b o (dJ e) e,rfl,rfl⟩ S (by rw[jW];exact u) λb l Y P D=>h b l Y (bN P (cu jW)) λy=>(D y).trans List.mem_reverse
theorem SN{K R:Pos}{e:Expr}(Y:Bi g xs (.builtin "sorted"))(U:Bi g O (.type "set"))(hk:F.sc.names.lookup xs=some .globalImplicit)(x:F.sc.names.lookup O=some .globalImplicit)(hq:F.q=true)
  (h:Ev g F e J M (λv C=>∃ (a:Addr) (l:List Int),v=.ref a/\C a=some (.L (l.map .int))/\l.length<64/\∀ b (L:List Int),C b=none->L.length<=l.length->(∀ y,y∈L↔y∈l)->Q (.ref b) (upd C b (.L (L.map .int)))) X)
  (hd:(xs==("__debug__" : Str))=false) (P:(O==("__debug__" : Str))=false) (he:∀ env,pg [e] env=[(false,eval e env)]) :
  Ev g F (.Call (.Name xs np) [.Call (.Name O K) [e] [] R] [] pos) J M Q X:=(λA env s I=>by
 have H:Evs g F [e] J M (λvs C=>∃ v,vs=[v]/\∃ (a:Addr) (l:List Int),v=.ref a/\C a=some (.L (l.map .int))/\l.length<64/\∀ b (L:List Int),C b=none->L.length<=l.length->(∀ y,y∈L↔y∈l)->Q (.ref b) (upd C b (.L (L.map .int)))) X:=
  W0 (h.mono λv C w=>sW ⟨v,rfl,w⟩) (by intros;rfl) he
 have D:wpAny (model g.prog g.w) A (eval (.Call (.Name O K) [e] [] R) env) (λv T=>wpAny (model g.prog g.w) A (call (.builtin "sorted") [v]) (l8 g F A env J M s Q) (j6 g F A env J M s X) T) (j6 g F A env J M s X) s:=by
  refine oU (I.nB x P U.1 U.2 (d5 (H A env s R I) λhw Ma=>callWith_excType Ma (s8 Ma (oO hw (λvs sw S=>?_) λN N p=>p))))
  refine S _ ?_;clear S;rintro Vs C rs Z E q;obtain⟨v,rfl,a,l,rfl,c,u,hQ⟩:=q;k_extra"cF";subst qa
  k_extra"cv";exact oO (RL Z (I.quiet hq) c u hQ) (λv T w=>oO w (λN N p=>p.step E) λN N p=>p) λN N p=>p
 refine oU (I.nB hk hd Y.1 Y.2 (fj rfl (s8 rfl ?_)));exact wpAny_items_cons (oO D (λv T Ja=>wpAny_items_nil Ja) λN N p=>p) rfl)
end
open PySem PySem.Builtin.Str PySem.StrLaws
noncomputable def I7(x:Str):List V:=x.cps.toList.map λc=>.str ⟨#[c]⟩
theorem Es{x:Str}{i:Nat}(h:(I7 x)[i]?=some v):∃ c,x.cps[i]?=some c/\v=.str ⟨#[c]⟩:=by
 unfold I7 at h;rw[bW,cM] at h;cases q:x.cps[i]? with
 | none=>rw[q] at h;cases h
 | some c=>rw[q] at h;exact⟨c,rfl,(d7 h).symm⟩
theorem wX(x:Str):(I7 x).length=x.cps.size:=by simp[I7]
theorem YQ{g:G}(w:A.handled=none){I:Addr}:IterOK g A I (I7 x) (λN=>True) (λi h=>h.IsStrIter I "str_ascii_iterator" x t i) where
 frame:=λi h h' st k N=>by refine a7 st λo ho r=>?_;exact⟨o,k _ ho,r⟩
 obj:=λi h st=>by refine f5 st λo ho N hd=>?_;exact⟨o,_,ho,hd⟩
 item:=λi v M s Q E hx st sm hK hQ=>by
  refine a7 (Es hx) λc hc qa=>?_;subst qa
  exact wpAny_pyNext_ascii_item st hc λh' q S=>hQ _ h' _ (.str _ _) q S.extBut
 done:=λM s Q E st sm hK hQ=>by
  rw[wX] at st;exact wpAny_pyNext_ascii_end w st (by simp) λh' u=>hQ h' s.toks u
 self:=λi s Q E st hQ=>wpAny_pyIter_striter_ascii st hQ
 plain:=λi s v elts k pos Q E st hQ=>by refine f5 st λo ho hc hd=>?_;exact T9 ho hc hd (by decide) hQ
theorem Ke{g:G}(w:A.handled=none){I:Addr}:IterOK g A I (I7 x) (λN=>True) (λi h=>h.IsStrIter I "str_iterator" x t i) where
 frame:=λi h h' st k N=>by refine a7 st λo ho r=>?_;exact⟨o,k _ ho,r⟩
 obj:=λi h st=>by refine f5 st λo ho N hd=>?_;exact⟨o,_,ho,hd⟩
 item:=λi v M s Q E hx st sm hK hQ=>by
  refine a7 (Es hx) λc hc qa=>?_;subst qa
  exact wpAny_pyNext_wide_item st hc λh' q S=>hQ _ h' _ (.str _ _) q S.extBut
 done:=λM s Q E st sm hK hQ=>by
  rw[wX] at st;exact wpAny_pyNext_wide_end w st (by simp) λh' u=>hQ h' s.toks u
 self:=λi s Q E st hQ=>wpAny_pyIter_striter_wide st hQ
 plain:=λi s v elts k pos Q E st hQ=>by refine f5 st λo ho hc hd=>?_;exact T9 ho hc hd (by decide) hQ
def sls(y c:Option Int)(x:Str):Str:=⟨(slc y c x.cps.toList).toArray⟩
theorem qm(n:Nat)(i:Int):max 0 (min (if i<0 then i+n else i) (n:Int))=((clipAt n i:Nat):Int):=(clipAt_cast n i).symm
theorem sr(n:Nat)(i:Int):clipAt n i<=n:=by
 have:=clipAt_cast n i;exact cZ.mp (this▸Int.max_le.mpr ⟨du n,Int.min_le_right _ _⟩)
theorem Wg(lo hi:Option Int)(n:Nat):Builtin.Str.strSliceIndices lo hi 1 n=Builtin.Str.strSliceIndices (some ((lo.elim 0 (clipAt n):Nat):Int)) (some ((hi.elim n (clipAt n):Nat):Int)) 1 n:=by
 have e:∀ k:Nat,k<=n->max (0:Int) (min (if ((k:Int)<0) then(k:Int)+n else k) (n:Int))=k:=λk hk=>by
  rw[if_neg (xx)];lia
 k_extra"ax"
 have h1:(lo.elim 0 (clipAt n))<=n:=by cases lo with | none=>exact cP _ | some i=>exact sr n i
 have h2:(hi.elim n (clipAt n))<=n:=by cases hi with | none=>exact cO _ | some i=>exact sr n i
 rw[e _ h1,e _ h2];cases lo with
 | none=>
  cases hi with
  | none=>rfl
  | some j=>simp only[mK];rw[qm n j];rfl
 | some i=>
  cases hi with
  | none=>simp only[mK];rw[qm n i]
  | some j=>simp only[mK];rw[qm n i,qm n j]
set_option tactic.hygienic true in
theorem Kg(x:Str)(y c:Option Int):sliceText x y c=sls y c x:=by
 have Z:(y.elim 0 (clipAt x.length))<=x.length:=by cases y with | none=>exact cP _ | some i=>exact sr _ i
 have S:(c.elim x.length (clipAt x.length))<=x.length:=by cases c with | none=>exact cO _ | some i=>exact sr _ i
 have u:x.cps.toList.length=x.length:=by simp[Str.length]
 have A:sliceText x y c=sliceText x (some ((y.elim 0 (clipAt x.length):Nat):Int)) (some ((c.elim x.length (clipAt x.length):Nat):Int)):=by
  unfold sliceText;rw[<- Wg y c x.length]
 rw[A];unfold sls slc;rw[u];generalize y.elim 0 (clipAt x.length)=a at *;generalize c.elim x.length (clipAt x.length)=b at *;by_cases q:a<=b
 ·exact sliceText_nat x q S
 ·have E:Builtin.Str.strSliceIndices (some (a:Int)) (some (b:Int)) 1 x.length=[]:=by
   k_extra"ax"
   rw[if_neg (xx),if_neg (xx)];have C:=co1 (Z);have D:max (0:Int) (min (b:Int) (x.length:Int))=b:=by lia
   rw[C,D];unfold sliceRange;simp
   lia
  unfold sliceText;rw[E];have w:b-a=0:=nj (dK (Nat.lt_of_not_le q));rw[w,List.take_zero]
  split
  ·rename_i h
   exfalso;simp at h
   exact Ju Z q h
  ·rfl
section
variable{g:G}{Q:V->Hp->Prop}
theorem vg{A env s}{C:Nat}(I:Inv g F A env J M s)(h:Q (.str x) M):l8 g F A env J M s Q (.str x tk) {s with toks:=C}:=
 (λz_ c=>c _ M (.str _ _) (I.keep Step.toks I.sim) Step.toks h)
theorem U6(k:∀ A env s u v,Inv g F A env J M s->wpAny (model g.prog g.w) A (t (.str a u) (.str b v)) (l8 g F A env J M s Q) (j6 g F A env J M s X) s):pC g F t (.str a) (.str b) J M Q X:=(λA env s x y I Z c=>by
 refine d4 Z.ofStr λu Ja=>?_;subst Ja;refine d4 c.ofStr λv Ja=>?_;subst Ja;exact k A env s u v I)
theorem ZD(hz:x.length+y.length<=10000)(h:Q (.str (x++y)) M):pC g F (binaryOp .Add) (.str x) (.str y) J M Q X:=U6 λA R s N N I=>SB.add (λN N=>vg I h) (bN hz (by decide))
theorem eq_str(h:Q (.bool (x==y)) M):pC g F (compareOp .Eq) (.str x) (.str y) J M Q X:=U6 λA R s N N I=>PyProof.Rows.eq_str (n6 I h)
theorem ne_str(h:Q (.bool (x != y)) M):pC g F (compareOp .NotEq) (.str x) (.str y) J M Q X:=U6 λA R s N N I=>PyProof.Rows.ne_str (n6 I h)
theorem ZZ(h:Q (.bool (Txt.contains x y)) M):pC g F (compareOp .In) (.str y) (.str x) J M Q X:=U6 λA R s N N I=>SB.contains (n6 I h)
theorem bt0(h:Q (.bool (!Txt.contains x y)) M):pC g F (compareOp .NotIn) (.str y) (.str x) J M Q X:=U6 λA R s N N I=>SB.notContains (n6 I h)
theorem Wh(c:(x.length:Int)<2 ^ 63)(h:Q (.int x.length) M):Cl g F (.builtin "len") [.str x] J M Q X:=(λA R s q I r=>by
 refine a7 r.one λz_ qa r0=>?_;subst qa;refine d4 r0.ofStr λz_ qa=>?_;subst qa;exact PyProof.Rows.len_str (by exact bI9 c) (B2 I h))
theorem bP3(Y:0<=k)(q:k<2 ^ 63)(U:x.cps[k.toNat]?=some c)(h:Q (.str ⟨#[c]⟩) M):Itm g F (.str x) (.int k) J M Q X:=(λA R s v y I Z ry=>by
 refine d4 Z.ofStr λz_ qa=>?_;subst qa;k_extra"9"
 exact⟨"str",_,typeIs_str _ _ _,PySem.F.slot_str_getitem.lookup,P.getItem_str (by simp;exact⟨cQ (by decide) Y,q⟩) (at_nonneg Y U) (vg I h)⟩)
theorem SQ(Y:0<=k)(Z:k<x.length)(hz:k<2 ^ 63)(h:∀ c,x.cps[k.toNat]?=some c->Q (.str ⟨#[c]⟩) M):Itm g F (.str x) (.int k) J M Q X:=by
 exact d4 (some_at Y Z) λc O=>bP3 Y hz O (h c O)
theorem PN(hz:x.length<=10000)(h:Q (.str (sls y c x)) M):Slc g F (.str x) y c J M Q X:=(λA R s v K Ja q I r P Z C=>by
 refine d4 r.ofStr λt qa=>?_;clear r;subst qa
 obtain⟨l,hl,el⟩:∃ l:Option (Int×Tok),Ja=partValue l/\l.map (·.1)=y:=by
  cases Z with
  | none=>exact⟨none,rfl,rfl⟩
  | int i t=>exact⟨some (i,t),rfl,rfl⟩
 obtain⟨u,H,w⟩:∃ u:Option (Int×Tok),q=partValue u/\u.map (·.1)=c:=by
  cases C with
  | none=>exact⟨none,rfl,rfl⟩
  | int i t=>exact⟨some (i,t),rfl,rfl⟩
 clear Z;clear C;subst hl H;refine f5 P λo E O D=>?_
 have e:=Kg x y c;refine⟨"str",_,typeIs_str _ _ _,PySem.F.slot_str_getitem.lookup,wpAny_getItem_str_slice (l:=l) (u:=u) (st:=none) ⟨o,E,O,D⟩ rfl (post_val_or_str ⟨?_,λL k=>?_⟩)⟩
 ·clear P;subst el w
  exact bN (Txt.slice_le x _ _) (bN hz (by decide))
 ·subst el w
  exact vg I (by rw[<- e] at h;exact h))
theorem ZW(h:Q (.int (if b then 1 else 0)) M):Cl g F (.type "int") [.bool b] J M Q X:=(λA R s c I r=>by
 refine a7 r.one λz_ qa r0=>?_;subst qa;obtain rfl:=r0.ofBool;exact call_int_bool (B2 I h))
end
mutual
noncomputable def dat:V->PyData
 | .none=>.none
 | .bool b=>.bool b
 | .int i=>.int i
 | .str x=>.str x
 | .tup l=>.tuple (g7 l)
 | .ref _=>.none
noncomputable def g7:List V->List PyData
 | []=>[]
 | x::l=>dat x::g7 l
end
mutual
noncomputable def flat:V->Bool
 | .none=>true
 | .bool _=>true
 | .int _=>true
 | .str x=>PyData.strOk x
 | .tup l=>aq l
 | .ref _=>false
noncomputable def aq:List V->Bool
 | []=>true
 | x::l=>flat x&&aq l
end
theorem Rep.reads(r:Rep h v a)(T:flat a=true):Reads h v (dat a) []:=
 V.rec (motive_1:=λa=>∀ v,Rep h v a->flat a=true->Reads h v (dat a) []) (motive_2:=λl=>∀ c,d9 h c l->aq l=true->ReadsAll h c (g7 l) [])
  (λv r N=>by rw[r.aO];exact .none) (λb v r N=>by rw[r.ofBool];exact .bool b) (λi v r N=>by refine d4 r.ofInt λt qa=>?_;subst qa;exact .int i t) (λx v r N=>by refine d4 r.ofStr λt qa=>?_;subst qa;exact .str x t)
  (λl u v r T=>by refine k9 r.az λa c n qa q r2=>?_;subst qa;exact .tuple q rfl rfl (u _ r2 T)) (λa v r T=>(bU T).elim)
  (λc r N=>by rw[r.aA];exact .nil)
  (λx l U hl c r T=>by
   k_extra"7";subst qa
   refine d5 (dw.mp T) λZ S=>?_
   exact .cons (as:=[]) (bs:=[]) (U _ r1 Z) (hl _ r2 S)) a v r T
theorem d9.reads(r:d9 h vs l)(T:aq l=true):ReadsAll h vs (g7 l) []:=by
 induction l generalizing vs with
 | nil=>rw[r.aA];exact .nil
 | cons x l ih=>
  k_extra"7";subst qa
  have c:=T;exact d5 (dw.mp c) λZ S=>.cons (as:=[]) (bs:=[]) (r1.reads Z) (ih r2 S)
theorem pW:flat a=true->(dat a).canLay0=true:=
 V.rec (motive_1:=λa=>flat a=true->(dat a).canLay0=true) (motive_2:=λl=>aq l=true->PyData.canLayAll0 (g7 l)=true) (λN=>rfl) (λN N=>rfl) (λN N=>rfl) (λN h=>h) (λN c h=>c h) (λN h=>(bU h).elim) (λN=>rfl)
  (λx l U hl h=>by
   refine d5 (dw.mp (show(flat x&&aq l)=true from h)) λZ S=>?_
   show((dat x).canLay0&&PyData.canLayAll0 (g7 l))=true;rw[U Z,hl S];rfl) a
theorem E8(h:aq l=true):PyData.canLayAll0 (g7 l)=true:=pW (a:=.tup l) h
mutual
noncomputable def I0:V->Bool
 | .none=>true
 | .int _=>true
 | .str _=>true
 | .tup l=>T5 l
 | _=>false
noncomputable def T5:List V->Bool
 | []=>true
 | x::l=>I0 x&&T5 l
end
theorem xR:I0 a=true->I0 b=true->(PyData.eqv (dat a) (dat b)=true↔a=b):=
 V.rec (motive_1:=λa=>∀ b,I0 a=true->I0 b=true->(PyData.eqv (dat a) (dat b)=true↔a=b)) (motive_2:=λl=>∀ k,T5 l=true->T5 k=true->(PyData.eqvAll (g7 l) (g7 k)=true↔l=k))
  (λb N hb=>by
   cases b with
   | none=>exact⟨λN=>rfl,λN=>rfl⟩
   | bool _=>exact(bU hb).elim
   | ref _=>exact(bU hb).elim
   | _=>exact⟨λh=>(bU h).elim,λh=>(by cases h)⟩)
  (λN N ha N=>(bU ha).elim)
  (λi b N hb=>by
   cases b with
   | int j=>exact⟨λh=>congrArg V.int (eq_of_beq h),λh=>beq_iff_eq.mpr (V.int.inj h)⟩
   | bool _=>exact(bU hb).elim
   | ref _=>exact(bU hb).elim
   | _=>exact⟨λh=>(bU h).elim,λh=>(by cases h)⟩)
  (λi b N hb=>by
   cases b with
   | str j=>exact⟨λh=>congrArg V.str (eq_of_beq h),λh=>beq_iff_eq.mpr (V.str.inj h)⟩
   | bool _=>exact(bU hb).elim
   | ref _=>exact(bU hb).elim
   | _=>exact⟨λh=>(bU h).elim,λh=>(by cases h)⟩)
  (λl c b ha hb=>by
   cases b with
   | tup k=>exact⟨λh=>congrArg V.tup ((c k ha hb).mp h),λh=>(c k ha hb).mpr (V.tup.inj h)⟩
   | bool _=>exact(bU hb).elim
   | ref _=>exact(bU hb).elim
   | _=>exact⟨λh=>(bU h).elim,λh=>(by cases h)⟩)
  (λN N ha N=>(bU ha).elim)
  (λk N N=>by
   cases k with
   | nil=>exact⟨λN=>rfl,λN=>rfl⟩
   | cons _ _=>exact⟨λh=>(bU h).elim,λh=>(by cases h)⟩)
  (λx l U hl k ha hb=>by
   cases k with
   | nil=>exact⟨λh=>(bU h).elim,λh=>(by cases h)⟩
   | cons y k=>
    refine d5 (dw.mp (show(I0 x&&T5 l)=true from ha)) λZ S=>d5 (dw.mp (show(I0 y&&T5 k)=true from hb)) λq u=>Iff.trans (show(PyData.eqv (dat x) (dat y)&&PyData.eqvAll (g7 l) (g7 k))=true↔_ from dw) ?_
    rw[U y Z q,hl k S u];exact⟨λh=>by rw[h.1,h.2],λh=>List.cons.inj h⟩) a b
theorem Rt(l:List V):g7 l=l.map dat:=by
 induction l with
 | nil=>rfl
 | cons x l c=>exact congrArg (dat x :: ·) c
def dep(a:V):Nat:=(dat a).depth
def aF(l:List V):Nat:=PyData.depthAll (g7 l)
section
variable{g:G}{Q:V->Hp->Prop}
theorem uw(Ma:flat a=true)(Y:flat b=true)(c:min (dep a) (dep b)<=8*F.d)(h:Q (.bool (PyData.eqv (dat a) (dat b))) M):pC g F (compareOp .Eq) a b J M Q X:=(λA R s x y I Z q=>
 SeqAt.compareEq_reads (Z.reads Ma) (q.reads Y) (pW Ma) (pW Y) (by have:=I.units;unfold dep at c;exact xZ c this) (n6 I h))
theorem vC(Ma:flat a=true)(Y:flat b=true)(c:min (dep a) (dep b)<=8*F.d)(h:Q (.bool (!PyData.eqv (dat a) (dat b))) M):pC g F (compareOp .NotEq) a b J M Q X:=(λA R s x y I Z q=>
 SeqAt.compareNe_reads (Z.reads Ma) (q.reads Y) (pW Ma) (pW Y) (by have:=I.units;unfold dep at c;exact xZ c this) (n6 I h))
theorem I8{A env s}(I:Inv g F A env J M s)(c:M a=some (.L l))(T:aq l=true):Reads s.heap (.ref a) (.list (g7 l)) [a]:=by
 obtain⟨u,⟨n,q⟩,r⟩:=(I.sim.objs a _ c).1;exact .list q rfl rfl (r.reads T)
theorem cp0(Ma:M a=some (.L l))(Y:M b=some (.L k))(hl:aq l=true)(K:aq k=true)(c:min (aF l) (aF k)+1<=8*F.d)(h:Q (.bool (PyData.eqvAll (g7 l) (g7 k))) M):pC g F (compareOp .Eq) (.ref a) (.ref b) J M Q X:=(λA R s x y I rx ry=>by
 obtain rfl:=rx.aa;obtain rfl:=ry.aa;refine SeqAt.compareEq_reads (I8 I Ma hl) (I8 I Y K) (E8 hl) (E8 K) ?_ (n6 I h);have:=I.units;show A.units+min (PyData.depthAll (g7 l)+1) (PyData.depthAll (g7 k)+1)<cLine;unfold aF at c;exact MP c this)
theorem Jo(Ma:M a=some (.L l))(Y:M b=some (.L k))(hl:aq l=true)(K:aq k=true)(c:min (aF l) (aF k)+1<=8*F.d)(h:Q (.bool (!PyData.eqvAll (g7 l) (g7 k))) M):pC g F (compareOp .NotEq) (.ref a) (.ref b) J M Q X:=(λA R s x y I rx ry=>by
 obtain rfl:=rx.aa;obtain rfl:=ry.aa;refine SeqAt.compareNe_reads (I8 I Ma hl) (I8 I Y K) (E8 hl) (E8 K) ?_ (n6 I h);have:=I.units;show A.units+min (PyData.depthAll (g7 l)+1) (PyData.depthAll (g7 k)+1)<cLine;rw[iI];exact dq (fG c _) I.units)
theorem aZ3(Ma:M a=some (.L l))(hl:aq l=true)(U:flat x=true)(c:min (aF l) (dep x)+1<=8*F.d)(h:Q (.bool ((g7 l).any λy=>PyData.eqv y (dat x))) M):pC g F (compareOp .In) x (.ref a) J M Q X:=(λA R s u v I q rv=>by
 obtain rfl:=rv.aa;refine SeqAt.in_list_reads (I8 I Ma hl) (q.reads U) (E8 hl) (pW U) ?_ (n6 I h);have:=I.units;unfold aF dep at c;exact Be c this)
theorem bO5(Ma:M a=some (.L l))(hl:aq l=true)(U:flat x=true)(c:min (aF l) (dep x)+1<=8*F.d)(h:Q (.bool (!(g7 l).any λy=>PyData.eqv y (dat x))) M):pC g F (compareOp .NotIn) x (.ref a) J M Q X:=(λA R s u v I q rv=>by
 obtain rfl:=rv.aa;refine SeqAt.notIn_list_reads (I8 I Ma hl) (q.reads U) (E8 hl) (pW U) ?_ (n6 I h);have:=I.units;unfold aF dep at c;exact Be c this)
theorem bZ7(x:0<F.d)(h:Q (.bool (l.length==0)) M):pC g F (compareOp .Eq) (.tup l) (.tup []) J M Q X:=(λA R s u v I q c=>by
   refine k9 q.az λa L n Ja Z r1=>?_;subst Ja
   refine k9 c.az λb w m Ja S r2=>?_;subst Ja
   have E:L.size=l.length:=by rw[<- r1.length,cB]
   have C:w.size=0:=by rw[<- cB,r2.length];rfl
   refine SeqAt.eq_tupleAt (e:=λN=>true) ⟨_,Z,rfl,_,rfl⟩ ⟨_,S,rfl,_,rfl⟩ (mH I.units) (λj N y=>by lia) ?_
   rw[C,E];simp only[Nat.min_zero,List.range_zero,List.all_nil,kY]
   exact n6 I h)
end
noncomputable def isS(x:Str):Value->Bool
 | .str y _=>y==x
 | _=>false
theorem xA{vs:List Value}{c:List Str}(r:d9 h vs (c.map .str)):(∀ y∈vs,∃ z t,y=.str z t)/\vs.any (isS x)=c.any (· == x):=by
 induction c generalizing vs with
 | nil=>rw[r.aA];exact⟨λy hy=>(nomatch hy),rfl⟩
 | cons n E q=>
  k_extra"7";subst qa
  refine d4 r1.ofStr λt qa=>?_;subst qa
  refine d5 (q r2) λZ S=>⟨λy hy=>?_,by rw[List.any_cons,List.any_cons,S];rfl⟩
  rcases bR.mp hy with rfl | hy
  ·exact⟨_,_,rfl⟩
  ·exact Z y hy
section
variable{g:G}{Q:V->Hp->Prop}
theorem uD{vs:Array Value}(h:∀ y∈vs.toList,∃ z t,y=.str z t):∀ y,y∈vs->SeqAt.EqAt A s y (.str x t) (isS x y):=λy L=>by
 obtain⟨z,u,rfl⟩:=h y (by simpa using L)
 exact λY w E Q c=>PyProof.Rows.eqBool_str c
theorem An{c:List Str}(Ma:M a=some (.L (c.map .str)))(h:Q (.bool (c.any (· == x))) M):pC g F (compareOp .In) (.str x) (.ref a) J M Q X:=(λA R s u v I ru rv=>by
 obtain rfl:=rv.aa;k_extra"bN"
 refine a7 ((I.sim.objs a _ Ma).1) λw q r=>d5 (xA (x:=x) r) λZ h2=>SeqAt.in_listAt (isS x) q.isList (uD Z) ?_
 rw[<- lK,h2];exact n6 I h)
theorem bt8{c:List Str}(Ma:M a=some (.L (c.map .str)))(h:Q (.bool (!c.any (· == x))) M):pC g F (compareOp .NotIn) (.str x) (.ref a) J M Q X:=(λA R s u v I ru rv=>by
 obtain rfl:=rv.aa;k_extra"bN"
 refine a7 ((I.sim.objs a _ Ma).1) λw q r=>d5 (xA (x:=x) r) λZ h2=>SeqAt.notIn_listAt (isS x) q.isList (uD Z) ?_
 rw[<- lK,h2];exact n6 I h)
theorem Lb{q:List Str}(hl:l=q.map .str)(h:Q (.bool (q.any (· == x))) M):pC g F (compareOp .In) (.str x) (.tup l) J M Q X:=(λA R s u v I ru c=>by
  rw[hl] at c;k_extra"bN"
  refine k9 c.az λa L n qa w r=>?_;subst qa
  refine d5 (xA (x:=x) r) λZ h2=>SeqAt.in_tupleAt (isS x) ⟨_,w,rfl,_,rfl⟩ (uD Z) ?_
  rw[<- lK,h2];exact n6 I h)
end
def Gs(g:G)(x:Str)(y:Str):Prop:=∃ t,g.mg x=some (.str y t)
def Gd(g:G)(x:Str)(D:List (Str×Int)):Prop:=∃ d,g.mg x=some (.ref d)/\StrTab g.prog g.w g.h₀ d (D.map λp=>(.str p.1,.int p.2))
noncomputable def yj:Option Int->V
 | some i=>.int i
 | none=>.none
theorem OD(D:List (Str×Int))(x:Str):PySem.Spec.lookup (.str x) (D.map λp=>(.str p.1,.int p.2))=(D.lookup x).map .int:=by
 induction D with
 | nil=>rfl
 | cons p D c=>
  show(if PySem.Spec.same (.str p.1) (.str x)=true then some (PyData.int p.2) else PySem.Spec.lookup (.str x) (D.map λp=>(.str p.1,.int p.2)))=_
  rw[PyProof.V.same_str,c,eU];by_cases h:p.1=x
  ·subst h;simp
  ·have y:=beq_eq_false_iff_ne.mpr (Ne.symm h)
   simp[h,y]
theorem Mz(n:Nat):Builtin.Range.rangeSize 0 (n:Int) 1=n:=by
 have h:=Cu 0 n;unfold Builtin.Range.rangeSize at h ⊢;simp only[show((1:Int) > 0)=True from eq_true (by decide),if_true] at h ⊢
 split
 ·simp
 ·lia
section
variable{g:G}{vs:List Str}{d:Nat}{q:Bool}{Q:V->Hp->Prop}
theorem Jl(T:Gs g x i)(K:sc.names.lookup x=some .globalImplicit)(c:(x==("__debug__" : Str))=false)(h:Q (.str i) M):Ev g ⟨sc,vs,d,q⟩ (.Name x pos) J M Q X:=
 by refine d4 T λt R=>?_;exact yR K R (λz_=>.str i t) h c
theorem Oa{D:List (Str×Int)}(Ma:Gd g x D)(hk:sc.names.lookup x=some .globalImplicit)(K:(x==("__debug__" : Str))=false)
  (h:Ev g ⟨sc,vs,d,q⟩ e J M (λv c=>∃ y,v=.str y/\Q (yj (D.lookup y)) c) X)
  (u:(C.endLine==pos.line)=true) (H:∀ env,attributeBase (.Name x P) (bM "get") env (eval (.Name x P) env)=eval (.Name x P) env)
  (Y:∀ env,((backTo pos (pg [e] env)).all (λx=>!x.1)&&(backToKw pos (keywordEach [] env)).all (λx=>x.1.isSome)
   && decide ([e].length+([]:List Keyword).length+(if ([]:List Keyword).isEmpty then 0 else 1)<30))=true) (he:∀ env,pg [e] env=[(false,eval e env)]) :
  Ev g ⟨sc,vs,d,q⟩ (.Call (.Attribute (.Name x P) (bM "get") C) [e] [] pos) J M Q X:=(λA env s I=>by
 refine a7 Ma λdd hm T=>?_
 have T':=T.keep I.sim.stays;have R:s.TypeIs (.ref dd) "dict":=by obtain⟨lo,U,K,Ma⟩:=T';exact K.typeIs
 have O:∃ ob,s.heap.get? dd=some ob/\ob.dict=none:=by
  obtain⟨lo,U,K,Ma⟩:=T';exact k9 K.mapOf λo es ep ho hc N=>⟨o,ho,hc.2.1⟩
 refine wpAny_Call_method (H env) (Y env) u PySem.F.plainAttrs_dict PySem.F.slot_dict_get PySem.F.type_dict_get
  (I.nG hk K hm ⟨R,λb e=>by cases e;exact O,?_⟩)
 have Ja:Evs g ⟨sc,vs,d,q⟩ [e] J M (λvs c=>∃ v,vs=[v]/\∃ y,v=.str y/\Q (yj (D.lookup y)) c) X:=
  W0 (h.mono λv c w=>sW ⟨v,rfl,w⟩) (by intros;rfl) he
 refine d5 (Ja A env s pos I) λhw hp=>fj hp (s8 hp (oO hw (λvs sw p0=>p0 _ ?_) λN N p=>p))
 clear p0;rintro Vs c rs Z E hq;obtain⟨v,rfl,y,rfl,L⟩:=hq;k_extra"cF";clear rs;subst qa
 refine d4 r0.ofStr λN qa=>?_;clear r0;subst qa
 refine call_get1_strTab (T.keep Z.sim.stays) λv w=>?_
 rw[OD] at w;refine l8.step E ?_;cases hl:D.lookup y with
 | none=>
  rw[hl] at w L;obtain rfl:=PyProof.V.Flat.none_inv w;exact(λN S=>S .none c .none (Z.keep Step.toks Z.sim) Step.toks L)
 | some i=>
  rw[hl] at w L;refine d4 (PyProof.V.Flat.int_inv w) λt qa=>?_;clear w;subst qa
  exact(λN S=>S (.int i) c (.int _ _) (Z.keep Step.toks Z.sim) Step.toks L))
set_option tactic.hygienic true in
theorem Xi(h:Q (.int (min a b)) M):Cl g ⟨sc,vs,d,true⟩ (.builtin "min") [.int a,.int b] J M Q X:=(λA R s L I r=>by
 refine g6 r.two λ_ _ Ja u c=>?_;subst Ja
 refine d4 u.ofInt λ_ Ja=>?_;subst Ja;refine d4 c.ofInt λ_ Ja=>?_;subst Ja
 refine min_two_ints (I.quiet rfl) λh' tk hk=>?_
 ·k_extra"bB"
  have e:min a b=if b<a then b else a:=by split<;>lia
  rw[e] at h
  split
  ·k_extra"aG"
  ·rename_i O;rw[if_neg O] at h;exact(λ_ k_=>k_ _ M (.int _ _) (I.keep st (I.sim.grow hk)) st h))
set_option tactic.hygienic true in
theorem Wc(h:Q (.int (max a b)) M):Cl g ⟨sc,vs,d,true⟩ (.builtin "max") [.int a,.int b] J M Q X:=(λA R s L I r=>by
 refine g6 r.two λ_ _ Ja u c=>?_;clear r;subst Ja
 refine d4 u.ofInt λ_ Ja=>?_;clear u;subst Ja;refine d4 c.ofInt λ_ Ja=>?_;subst Ja
 refine max_two_ints (I.quiet rfl) λh' tk hk=>?_
 ·k_extra"bB"
  have e:max a b=if b > a then b else a:=by split<;>lia
  rw[e] at h
  split
  ·k_extra"aG"
  ·rename_i O;rw[if_neg O] at h;exact(λ_ k_=>k_ _ M (.int _ _) (I.keep st (I.sim.grow hk)) st h))
theorem KH(hb:Bi g x (.type "list"))(hk:sc.names.lookup x=some .globalImplicit)(hd:(x==("__debug__" : Str))=false)
  (h:Rng g ⟨sc,vs,d,true⟩ e J M (λa b c C=>∃ n:Nat,a=0/\c=1/\b=n/\n<=10000/\∀ l,C l=none->Q (.ref l) (upd C l (.L (m6 0 1 n)))) X)
  (he:∀ env,pg [e] env=[(false,eval e env)]):Ev g ⟨sc,vs,d,true⟩ (.Call (.Name x np) [e] [] pos) J M Q X:=(λA env s I=>by
 k_extra"au";k_extra"bP"
 refine callWith_excType hp (s8 hp (wpAny_items_cons (oO (h A env s I) (λv Ja R=>wpAny_items_nil (R _ ?_)) λN N p=>p) (he env)))
 clear R;rintro r a b c t u v' C hx Y Z E ⟨n,Ma,O,hb,P,U⟩;subst hx Ma O hb;refine call_list_range (Z.quiet rfl) Y (yV (by unfold s5;exact Du) (by unfold s5;exact⟨cQ (by decide) (du _),cQ (cZ.mpr P) (by decide)⟩)) (Mz n) (bN P (by decide)) λy tk K c' D S H=>l8.step E (F3 (s':={Ja with heap:=y,toks:=tk}) Z ⟨D,rfl,rfl⟩ (u5 _) S ?_ U)
 have:∀ (k:Nat) (l:List Value) (m:Nat),(∀ i v,l[i]?=some v->∃ t,v=Value.int (((m+i:Nat):Int)) t)->l.length=k->d9 y l ((cY k).map fun(i:Nat)=>V.int (((m+i:Nat):Int))):=by
  intro k;induction k with
  | zero=>intro l m _ hl;obtain rfl:=fP.mp hl;exact .nil
  | succ k ih=>
   intro l m L hl;cases l with
   | nil=>cases hl
   | cons v l=>
    refine d4 (L 0 v rfl) λt qa=>?_;subst qa
    rw[List.range_succ_eq_map,gM,fK];refine .cons (.int _ t) ?_;have:=ih l (m+1) (λi v w=>by
     refine d4 (L (i+1) v w) λt e=>?_
     exact⟨t,by rw[e];congr 2;lia⟩) (by simpa using hl)
    have e:((λi=>V.int (((m+i:Nat):Int)))∘Nat.succ)=λi=>V.int (((m+1+i:Nat):Int)):=by
     funext i;simp only[Function.comp];congr 2;lia
    rw[e];exact this
 have T:=this n K.toList 0 (λi v w=>by
  obtain⟨t,e⟩:=H.2 i v (by rw[<- cM];exact w)
  exact⟨t,by rw[e];congr 1;exact BK⟩) (by rw[cB];exact H.1)
 unfold m6;have e:(fun(i:Nat)=>V.int (0+(i:Int)*1))=λi=>V.int (((0+i:Nat):Int)):=by funext i;congr 1;exact BK
 rw[e];exact T)
end
noncomputable def xu:Expr->Bool:=λx=>swappedStores.match_5 (λN=>Bool) x (λN N=>true) λN=>false
theorem Oo{u c:Type}{f:u->Option c}{a b:u}{x y:c}(Z:f a=some x)(S:f b=some y):[a,b].filterMap f=[x,y]:=by
 rw[lL Z,lL S];rfl
theorem cg9{A:Pos}(Y:env.blockKind=.function)(D:env.kindOf x=some .local)(L:env.kindOf y=some .local)(hl:(A.line==px.line)=true)(w:([x,y].eraseDups.length != 2)=false)
  (P:([a,b].any xu)=false) (T:[a,b].all (ph 8)=false) (O:[a,b].all (pA 8)=false) :
  swappedStores [.Tuple [.Name x px,.Name y A] k u] (.Tuple [a,b] H p) env=pure (some [x,y]):=by
 have E:(if (env.kindOf x==some .local&&px.line==px.line)=true then some x else none)=some x:=if_pos (by rw[D];simp)
 have C:(if (env.kindOf y==some .local&&A.line==px.line)=true then some y else none)=some y:=if_pos (by rw[L,hl];rfl)
 unfold swappedStores;refine(if_neg (by rw[Y];exact bU)).trans ((if_neg (λh=>bU (P.symm.trans h))).trans ?_)
 have c:∀ (names:List Str) (U:Sem (Option (List Str))),names=[x,y]->(if (names.length != 2||names.eraseDups.length != names.length)=true then(pure none:Sem (Option (List Str))) else if [a,b].all (ph 8)=true then pure none else if [a,b].all (pA 8)=true then U else pure (some names))=pure (some [x,y]):=by
  rintro _ U rfl;exact(if_neg λh=>bU (w.symm.trans h)).trans ((if_neg λh=>bU (T.symm.trans h)).trans (if_neg λh=>bU (O.symm.trans h)))
 exact c _ _ (Oo E C)
section
variable{g:G}{vs:List Str}{d:Nat}{q:Bool}{Q:V->Hp->Prop}
theorem be3(h:Q (.bool true) M):pC g F (compareOp .NotEq) .none (.int i) J M Q X:=vC rfl rfl (cP _) h
theorem La(h:Q (.bool false) M):pC g F (compareOp .Eq) .none (.int i) J M Q X:=uw rfl rfl (cP _) h
theorem Wk(h:Q (.bool (a != b)) M):pC g F (compareOp .NotEq) (.bool a) (.bool b) J M Q X:=vC rfl rfl (cP _) h
theorem TP(h:Q (.bool (a==b)) M):pC g F (compareOp .Eq) (.bool a) (.bool b) J M Q X:=uw rfl rfl (cP _) h
end
noncomputable def ur(P:Params)(p:Str×Nat×Int×Nat):DictEntry:=⟨PyData.keyHash P p.1,.str p.1 p.2.1,.int p.2.2.1 p.2.2.2⟩
theorem cu2(l:List (Str×Nat×Int×Nat))(q:(l.map (·.1)).Nodup)(y:(d==sysModules)=false)(u:h.get? d=some {cls:=.type "dict",data:=.dict (l.map (ur w.params)).toArray n}) :
  StrTab prog w h d ((l.map λp=>(p.1,p.2.2.1)).map λp=>(PyData.str p.1,PyData.int p.2)):=by
 refine TabAt.ofObj (kvs:=l.map λp=>(p.1,Value.int p.2.2.1 p.2.2.2)) y u ⟨_,_,⟨rfl,rfl,rfl⟩,rfl,?_,?_,?_⟩ ?_
 ·intro e c
  simp only[List.mem_toArray,cD] at c
  refine a7 c λp N Ja=>?_;clear c;subst Ja
  exact⟨p.1,by simp[PySem.strKind,Value.isStrOf,ur],rfl⟩
 ·rw[nY]
  clear u q;induction l with
  | nil=>exact .nil
  | cons p l x=>exact .cons (by simp[PySem.strKind,Value.isStrOf,ur]) rfl x
 ·rw[fK];exact q
 ·clear u q
  induction l with
  | nil=>exact .nil
  | cons p l x=>exact .cons (PyProof.V.Flat.int _ _) x
theorem tW{h:Heap}{o:Obj}{ep:Nat}(w:h.Ns a m)(y:h.get? a=some o)(u:o.data=.dict L ep)(x:Str):m x=nsFind L x:=by
 refine I6 w λU q Y O c N T=>?_
 rw[y] at O;replace O:=d7 O;subst O;rw[u] at c;cases c;exact(T x).symm
theorem d9.erase(i:Nat)(r:d9 h vs l):d9 h (vs.eraseIdx i) (l.eraseIdx i):=by
 induction l generalizing vs i with
 | nil=>rw[r.aA];exact .nil
 | cons y l ih=>
  refine g6 r.aj λu us qa r1 r2=>?_;subst qa
  cases i with
  | zero=>exact r2
  | succ i=>exact .cons r1 (ih i r2)
section
variable{g:G}{Q:V->Hp->Prop}
theorem zA{A env s}{fr own:Addr->Prop}{tk:Nat}(I:Inv g F A env J M s)(c:M a=some (.L l))(q:s.heap.get? a=some {cls:=.type "list",data:=.seq vs n})
  (r:d9 s.heap (f vs).toList l'):Inv g F A env J (upd M a (.L l')) {s with heap:=s.heap.update a (eO f),toks:=tk}/\Step fr own M (upd M a (.L l')) s {s with heap:=s.heap.update a (eO f),toks:=tk}:=by
 have P:Heap.SameBut a s.heap (s.heap.update a (eO f)):=Heap.SameBut.update ..;have Ma:(s.heap.update a (eO f)).PlainList a (f vs):=⟨_,gn _ q rfl⟩;have w:=tC P ⟨n,q⟩;obtain⟨u,D⟩:=wD (own:=own) (tk:=tk) I ⟨_,c⟩ Ma (r.mono w) P ⟨vs,n,q⟩;exact⟨u,D⟩
theorem bT9{l:List V}{k:Int}(hM:M a=some (.L l))(hz:l.length<=10000)(Y:0<=k)(K:k<l.length)(U:l[k.toNat]?=some x)(h:Q x (upd M a (.L (l.eraseIdx k.toNat)))):Cl g F (.builtin "list.pop") [.ref a,.int k] J M Q X:=(λA R s L I r=>by
 k_extra"c8"
 k_extra"cv";refine d4 r'.ofInt λz_ qa=>?_;subst qa
 k_extra"cz";k_extra"a6"
 refine a7 (rl.get U) λv w y=>?_
 have c:vs[k.toNat]?=some v:=by rw[<- cM];exact w
 refine call_meets PySem.F.slot_list_pop ⟨_,ho,rfl⟩ PySem.F.entry_list_pop (PySem.F.args_list_pop_2 _ _) (MeetsSeq.list_pop_at a vs n k _ k.toNat v (by simp[Builtin.List.listFitsIndex];exact Uv hz Y K) (by rw[e];exact tM Y K) c (by rw[e];exact bN hz (by decide))) ⟨ho,?_⟩
 obtain⟨q,D⟩:=zA (own:=f7) (tk:=s.toks) (f:=λC=>C.eraseIdxIfInBounds k.toNat) (l':=l.eraseIdx k.toNat) I hM ho (by
  have:(vs.eraseIdxIfInBounds k.toNat).toList=vs.toList.eraseIdx k.toNat:=by simp
  rw[this];exact rl.erase _)
 exact(λz_ u=>u x _ (y.mono D.ak) q D h))
theorem Pu(r:d9 h vs.toList l)(n:Nat):∀ (A:Array Value) (k:List V),d9 h A.toList k->d9 h (nM (λx y=>x++y) A (bY n vs)).toList (k++(bY n l).flatten):=by
 induction n with
 | zero=>intro A k K;simpa using K
 | succ n c=>
  intro A k K;rw[jd,jg,jd,jn,<- dB];exact c _ _ (by rw[Array.toList_append];exact K.append r)
set_option tactic.hygienic true in
theorem Ux(c:M a=some (.L l))(Y:0<=n)(hz:l.length*n.toNat<=10000)(K:n<=10000)(h:∀ b,M b=none->Q (.ref b) (upd M b (.L (bY n.toNat l).flatten))):pC g F (binaryOp .Mult) (.ref a) (.int n) J M Q X:=(λA R s x y I rx H=>by
 obtain rfl:=rx.aa;refine d4 H.ofInt λu Ja=>?_;subst Ja
 obtain⟨vs,⟨k,w⟩,rl⟩:=(I.sim.objs a _ c).1;k_extra"a6"
 have E:vs.size*n.toNat<=10000:=by rw[e];exact hz
 refine wpAny_binaryOp_repeat_ref (T:="list") (U:="int") (by decide) ⟨_,w,rfl⟩ (λs'=>typeIs_int s' n u) noFill_list_mul PySem.F.fills_int_mul PySem.F.slot_int_rmul repeat_list PySem.F.slot_int_index.lookup
  (call_meets PySem.F.slot_int_rmul (typeIs_int s n u) PySem.F.entry_int_rmul (PySem.F.args_int_rmul_2 _ _) (int___rmul___int_list n u a vs k)
   ⟨w,rfl,⟨_,w,rfl⟩,call_meets PySem.F.slot_list_mul ⟨_,w,rfl⟩ PySem.F.entry_list_mul (PySem.F.args_list_mul_2 _ _)
    (AutoListH.list___mul___list_int_3 a vs k n u (by simp[Builtin.List.listFitsIndex];exact⟨cQ (by decide) Y,dz K (by decide)⟩) (by lia) (by simp[Builtin.List.listTooLong,sizeLine];lia))
    ⟨w,?_⟩⟩)
 refine F3 (s':={s with heap:=s.heap.push {cls:=.type "list",data:=.seq (nM (λC D=>C++D) #[] (bY (if vs.isEmpty=true then 0 else n.toNat) vs))}}) I ⟨λb o e=>bZ _ e,rfl,rfl⟩ (u5 _) (cH _ rfl) ?_ h
 have:d9 s.heap (nM (λC D=>C++D) #[] (bY (if vs.isEmpty=true then 0 else n.toNat) vs)).toList (bY n.toNat l).flatten:=by
  split
  ·rename_i q
   have:vs=#[]:=by simpa using q
   clear rx;clear H;clear w;clear E;clear q;clear c;clear hz;clear h;subst this;obtain rfl:l=[]:=by cases l with | nil=>rfl | cons x l=>refine i5 rl.aj λ_ _ e _=>?_;cases e
   rw[show(bY n.toNat ([]:List V)).flatten=[] by simp]
   exact .nil
  ·have:=Pu rl n.toNat #[] [] .nil
   simpa using this
 exact this.mono (Step.push (fr:=inF A) (own:=f7) (M:=M) (s:=s) (o:={cls:=.type "list",data:=.seq (nM (λC D=>C++D) #[] (bY (if vs.isEmpty=true then 0 else n.toNat) vs))})).ak)
end
section
variable{K:Type}{h:Heap}{kvs:List (K×Value)}{L:List (K×V)}
theorem KVs.nil:KVs (K:=K) h [] []:=⟨rfl,.nil⟩
theorem KVs.cons{k:K}{v:Value}{x:V}(r:Rep h v x)(s:KVs h kvs L):KVs h ((k,v)::kvs) ((k,x)::L):=⟨congrArg (k :: ·) s.1,.cons r s.2⟩
theorem KVs.aA(s:KVs h kvs []):kvs=[]:=List.map_eq_nil_iff.mp s.1
theorem KVs.aj(s:KVs h kvs ((k,x)::L)):∃ v c,kvs=(k,v)::c/\Rep h v x/\KVs h c L:=by
 cases kvs with
 | nil=>cases s.1
 | cons p c=>
  obtain⟨E,C⟩:=List.cons.inj s.1;obtain⟨y,v⟩:=p;obtain⟨S,w,e,r1,r2⟩:=s.2.aj;obtain⟨q,u⟩:=List.cons.inj e;clear s;clear e;subst E q u;exact⟨v,c,rfl,r1,C,r2⟩
variable[DecidableEq K]
noncomputable def x7(L:List (K×V))(k:K)(v:V):List (K×V):=if L.any (λp=>p.1=k) then L.map (λp=>if p.1=k then(p.1,v) else p) else L++[(k,v)]
noncomputable def i9(L:List (K×V))(k:K):Option V:=(L.find? λp=>p.1=k).map (·.2)
inductive Seen(h:Heap):Option Value->Option V->Prop
 | no:Seen h none none
 | yes {v:Value} {x:V} (r:Rep h v x):Seen h (some v) (some x)
theorem KVs.seen(k:K)(s:KVs h kvs L):Seen h (valueAt kvs k) (i9 L k):=by
 induction L generalizing kvs with
 | nil=>rw[s.aA];exact .no
 | cons p L q=>
  obtain⟨c,x⟩:=p;obtain⟨v,u,rfl,r,s⟩:=s.aj;have S:=q s;unfold valueAt i9 at S ⊢;rw[iw,iw];by_cases e:c=k
  ·rw[show decide ((c,v).1=k)=true from decide_eq_true e];exact .yes r
  ·rw[show decide ((c,v).1=k)=false from decide_eq_false e];exact S
theorem yx{c:Type}(l:List (K×c))(k:K):l.any (λp=>p.1=k)=(l.map (·.1)).any (λq=>q=k):=by rw[oH];rfl
theorem KVs.put(s:KVs h kvs L)(r:Rep h v x):KVs h (stored kvs k v) (x7 L k x):=by
 unfold stored x7;rw[yx kvs,yx L,s.1];cases(L.map (·.1)).any (λq=>q=k) with
 | true=>
  rw[if_pos rfl,if_pos rfl];induction L generalizing kvs with
  | nil=>rw[s.aA];exact .nil
  | cons p L c=>
   obtain⟨w,y⟩:=p;obtain⟨u,A,rfl,r1,s⟩:=s.aj;rw[gM,gM];by_cases e:w=k
   ·rw[if_pos e,if_pos e];exact .cons r (c s)
   ·rw[if_neg e,if_neg e];exact .cons r1 (c s)
 | false=>
  rw[if_neg bU,if_neg bU];refine⟨?_,?_⟩
  ·rw[cG,cG,s.1];rfl
  ·rw[cG,cG];exact s.2.append (.cons r .nil)
theorem KVs.len(s:KVs h kvs L):kvs.length=L.length:=by
 have:=congrArg List.length s.1;rw[bQ,bQ] at this;exact this
end
structure Kd(g:G)(K:Type)[DecidableEq K] where
 knd:KeyKind g.prog g.w K
 key:K->V
 ob:List (K×V)->AObj
 rep:∀ h v k,Rep h v (key k)->knd.is k v=true
 bw:∀ h a l,s6 g h a (ob l)=o6 knd h a l
noncomputable def kdI(g:G):Kd g Int where
 knd:=intKind g.prog g.w
 key:=.int
 ob:=.di
 rep:=λh v k r=>by refine d4 r.ofInt λt Ja=>?_;subst Ja;exact decide_eq_true rfl
 bw:=λN N N=>rfl
noncomputable def kdS(g:G):Kd g Str where
 knd:=strKind g.prog g.w
 key:=.str
 ob:=.ds
 rep:=λh v k r=>by refine d4 r.ofStr λt Ja=>?_;subst Ja;exact beq_self_eq_true k
 bw:=λN N N=>rfl
section
variable{g:G}{Q:V->Hp->Prop}{K:Type}[DecidableEq K](D:Kd g K)
theorem Inv.dict{A env s}{L:List (K×V)}(I:Inv g F A env J M s)(c:M a=some (D.ob L)):o6 D.knd s.heap a L:=by
 have:=(I.sim.objs a _ c).1;rw[D.bw] at this;exact this
theorem zV{h:Heap}(s:Seen h o x):o.isSome=x.isSome:=by cases s<;>rfl
theorem cy9{L:List (K×V)}(hM:M a=some (D.ob L))(h:Q (.bool (i9 L k).isSome) M):pC g F (compareOp .In) (D.key k) (.ref a) J M Q X:=(λA R s x y I Z ry=>by
 obtain rfl:=ry.aa;refine(I.dict D hM) _ ?_;rintro kvs c w P;exact wpAny_in_of (D.rep _ _ _ Z) P c.mapOf (by rw[zV (w.seen k)];exact n5 I h))
theorem bs0{L:List (K×V)}(hM:M a=some (D.ob L))(h:Q (.bool (!(i9 L k).isSome)) M):pC g F (compareOp .NotIn) (D.key k) (.ref a) J M Q X:=(λA R s x y I Z ry=>by
 obtain rfl:=ry.aa;refine(I.dict D hM) _ ?_;rintro kvs c w P;exact wpAny_notIn_of (D.rep _ _ _ Z) P c.mapOf (by rw[zV (w.seen k)];exact n5 I h))
theorem xK{L:List (K×V)}(hM:M a=some (D.ob L))(U:i9 L k=some x)(h:Q x M):Itm g F (.ref a) (D.key k) J M Q X:=(λA R s v y I rv C=>by
 obtain rfl:=rv.aa;refine(I.dict D hM) _ ?_;rintro kvs c w P;have q:=w.seen k;rw[U] at q;generalize e:valueAt kvs k=E at q;cases q with
 | yes r=>exact⟨"dict",_,c.typeIs,slot_dict_getitem.lookup,wpAny_getItem_of (D.rep _ _ _ C) c.mapOf e (λz_ u=>u x M r (I.keep Step.toks I.sim) Step.toks h)⟩)
theorem wA{h:Heap}{L:List (K×V)}(P:Heap.SameBut a h h')(c:o6 D.knd h a L):l6 h h':=λb x n e=>by
 exact j7 c.has λw ep u=>(P.2 b (λq=>by rw[q,u] at e;simp at e)).trans e
theorem o6.isD{h:Heap}{a:Addr}{l:List (K×V)}(x:o6 knd h a l):∃ c,h.get? a=some c/\IsD c:=by
 exact j7 x.has λq ep u=>⟨_,u,q,ep,rfl⟩
theorem Ec{L:List (K×V)}{v:V}{P:Hp->Prop}(c:M b=some (D.ob L))(hz:L.length<=sizeLine)(U:P (upd M b (D.ob (x7 L k v)))):StI g F (.ref b) (D.key k) v J M P:=(λA R s x y z E I rx ry rz=>by
 obtain rfl:=rx.aa;have C:=I.dict D c;refine(id C) _ ?_;rintro kvs Y w Ja;refine wpAny_setItem_pairs (D.rep _ _ _ ry) Y (λT H S=>?_) (by rw[w.len];exact hz)
 have Ma:=wA D S C;have O:o6 D.knd T b (x7 L k v):=(λN Z=>Z _ H ((w.mono Ma).put (rz.mono Ma)) Ja)
 obtain⟨q,u⟩:=U0 (fr:=inF A) (own:=ownOf R) (tk:=s.toks+1) I c (by rw[D.bw];exact O) S Ma λN N N=>O.isD
 exact⟨_,q,u,U⟩)
theorem qj{A env s}(I:Inv g F A env J M s):(s.heap.objs.size==sysModules)=false:=by
 refine v9 (g.ns.keeps I.sim.stays) λo q ep c N=>?_
 show(s.heap.objs.size==1)=false;rw[beq_eq_false_iff_ne];exact λe=>absurd (e▸(dJ c)) (by decide)
theorem wg{h:Heap}(P:(h.objs.size==sysModules)=false):o6 D.knd (h.push {cls:=.type "dict",data:=.dict #[]}) h.objs.size []:=(λz_ c=>c [] (Heap.DictOf.new _) .nil P)
theorem Fd(h:∀ a,M a=none->Q (.ref a) (upd M a (D.ob []))):Ev g F (.Dict [] [] pos) J M Q X:=(λA R s I=>
 wpAny_Dict_empty (X8 I Y6 (u5 _) (by rw[D.bw];exact wg D (qj I)) h))
theorem j6.bj{A env s sw sv}(st:Step (inF A) f7 M sv s sw)(p:j6 g F A env J sv sw (λv O=>∃ M',O=upd M' d o/\M' d=none/\X v M') e s'):j6 g F A env J M s X e s':=by
 k_extra"3";rintro x O f i y ⟨M',rfl,c,q⟩;exact(λz_ u=>u x M' ((f.step st).sub (Sub.upd c)) (i.sub (Sub.upd c)) ((st.trans y).sub (Sub.upd c)) q)
theorem bK9{ve:Expr}(h:Ev g F ke J M (λkv c=>Ev g F ve J c (λv O=>∃ k,kv=D.key k/\∀ a,O a=none->Q (.ref a) (upd O a (D.ob [(k,v)]))) X) X):Ev g F (.Dict [some ke] [ve] pos) J M Q X:=(λA R s I=>by
 refine wpAny_Dict_pairs (knd:=D.knd) (pairs:=[(eval ke R,do let y <- eval ve R;standAt pos;pure y)]) rfl (by simp) (by simp) ((X8 (Q:=λv c=>∃ a,v=.ref a/\c=upd M a (D.ob [])/\M a=none) (o:=D.ob []) I (Y6 (o:={cls:=.type "dict",data:=.dict #[]})) (u5 _) (by rw[D.bw];exact wg D (qj I)) λa ha=>⟨a,rfl,rfl,ha⟩) _ ?_)
 rintro V c r Z E ⟨a,rfl,rfl,ha⟩;have e0:=Value.ref.inj r.aa;refine evalPairs_cons (pgo ((h.frame ha) A R _ Z) (λkv T Vk O rk U C Ma=>f5 Ma λM' qa hn w=>?_) λe s' p=>p.bj E)
 clear Ma;rw[qa] at U C;have x:=E.trans C;refine oM (pgo ((w.frame hn) A R T U) (λvv P Vv M3 rv Y S Ma=>?_) λe s' p=>p.bj x)
 obtain⟨M'',rfl,hn',k,rfl,hQ⟩:=Ma;refine oM (wpAny_standAt (oN (evalPairs_nil ?_)));rw[e0];have H:=Y.dict D (d6 _ _ _);refine(id H) _ ?_;rintro kvs hd hv hsm;clear w;obtain rfl:=hv.aA;refine⟨[(k,vv)],⟨D.rep _ _ _ (rk.mono S.ak),rfl,trivial⟩,hd,λh' hd' Ja=>?_⟩
 have tu:=wA D Ja H;have dr:o6 D.knd h' a [(k,Vv)]:=(λN k_=>k_ _ hd' (.cons (rv.mono tu) .nil) hsm)
 obtain⟨q,u⟩:=U0 (fr:=inF A) (o':=D.ob [(k,Vv)]) (own:=f7) (tk:=P.toks+1) Y (d6 _ _ _) (by rw[D.bw];exact dr) Ja tu λN N N=>dr.isD
 rw[O1] at q u;exact(λN k_=>k_ (.ref a) _ (.ref a) q ((x.trans S).trans u) (hQ a hn')))
end
section
variable{g:G}{vs:List Str}{d:Nat}{q:Bool}{Q:V->Hp->Prop}
theorem LK{E:List Int}:∀ {l:List Value},d9 h l (E.map .int)->∃ ps:List (Int×Tok),l=ps.map (λp=>.int p.1 p.2)/\ps.map (·.1)=E:=by
 induction E with
 | nil=>intro l r;rw[r.aA];exact⟨[],rfl,rfl⟩
 | cons n E c=>
  intro l r;k_extra"7";clear r;subst qa
  refine d4 r1.ofInt λt qa=>?_;clear r1;subst qa
  refine a7 (c r2) λps qa u=>?_;clear c;clear r2;subst qa;subst u
  exact⟨(n,t)::ps,rfl,rfl⟩
end
section
variable{g:G}{Q:V->Hp->Prop}
theorem by2{K:Type}[DecidableEq K](D:Kd g K)
  (h:Ev g F o J M (λv c=>∃ a L,v=.ref a/\c a=some (D.ob L)/\Ev g F e J c (λu O=>Ev g F z J O (λy Ma=>∃ k L',u=D.key k/\Ma a=some (D.ob L')/\Q ((i9 L' k).getD y) Ma) X) X) X)
  (R:(H.endLine==pos.line)=true) (P:∀ env,attributeBase o (bM "get") env (eval o env)=eval o env)
  (T:∀ env,((backTo pos (pg [e,z] env)).all (λx=>!x.1)&&(backToKw pos (keywordEach [] env)).all (λx=>x.1.isSome)
   && decide ([e,z].length+([]:List Keyword).length+(if ([]:List Keyword).isEmpty then 0 else 1)<30))=true) (he:∀ env,pg [e,z] env=[(false,eval e env),(false,eval z env)]) :
  Ev g F (.Call (.Attribute o (bM "get") H) [e,z] [] pos) J M Q X:=(λA env s I=>by
 refine wpAny_Call_method (P env) (T env) R PySem.F.plainAttrs_dict PySem.F.slot_dict_get PySem.F.type_dict_get (pgo (h A env s I) (λov sw V c r Z E hpq=>g6 hpq λa L hv hM h1=>?_) λN N p=>p)
 clear hpq;rw[hv] at r;k_extra"cP";refine j7 ((Z.dict D hM).has) λes ep ho=>⟨⟨_,ho,rfl⟩,λb e=>by cases e;exact⟨_,ho,rfl⟩,?_⟩
 rw[he env];refine method2_meetsIn PySem.F.slot_dict_get PySem.F.entry_dict_get ?_;rw[if_neg bU,if_neg bU];refine pgo (h1 A env sw Z) (λkv s₂ Vk O rk U C hq=>?_) λN N p=>p.step E
 have Ja:=E.trans C;refine pgo (hq A env s₂ U) (λzv s₃ Vz Ma rz Y S hq=>g6 hq λk L' qa w hQ=>?_) λN N p=>p.step Ja
 clear hq;clear hq;rw[qa] at rk;refine(Y.dict D w) _ ?_;rintro kvs hd hv hs;refine⟨hd.typeIs,PySem.F.args_dict_get_3 _ _ _,_,meets_dict_get_default D.knd a (D.rep _ _ _ (rk.mono S.ak)) hs zv,_,hd.mapOf,?_⟩;have q:=hv.seen k;refine l8.step (Ja.trans S) ?_;generalize valueAt kvs k=ov at q ⊢;generalize i9 L' k=od at q hQ;cases q with
 | no=>exact(λN k_=>k_ _ Ma rz (Y.keep Step.toks Y.sim) Step.toks hQ)
 | yes r=>exact(λN k_=>k_ _ Ma r (Y.keep Step.toks Y.sim) Step.toks hQ))
theorem Zv{Q:j5}{X:n9}(y:F.q=true)(h:Ev g F e J M (λv c=>Asg g F (.Tuple L k w) v J c (λS=>Q .next S c)) (λx c=>X x J c))
  (P:∀ env,swapsWithSole [.Tuple L k w] e pos.line env=pure false) (D:∀ env,swappedStores [.Tuple L k w] e env=pure none):Ex g F (.Assign [.Tuple L k w] e pos) J M Q X:=(λA env s I=>by
 refine PyProof.Rows.Assign_Tuple (oO (h A env s I) (λv u p=>p _ ?_) λN N p=>p.toS) (P env) (D env)
 clear p;rintro V c r Z E a;exact a.run A env u v _ _ Z (Z.quiet y) r λT S U C q=>(λN H=>H .next S c .next U ((E.mono λN h=>h.elim).trans C) q))
end
section
variable{g:G}{vs:List Str}{d:Nat}{q:Bool}{Q:V->Hp->Prop}
theorem co3:AnswersAll (λs=>s.TypeIs (.ref a) "list") (.ref a) [.type "list",.type "tuple"] [true,false]:=
 ⟨Answers.of_true (by kernel_rfl) (by rw[isSubtype_type];kernel_rfl),Answers.of_false_list (by decide) (by kernel_rfl) (by rw[isSubtype_type];kernel_rfl),trivial⟩
theorem bR0:AnswersAll (λs=>s.TypeIs (.ref a) "tuple") (.ref a) [.type "list",.type "tuple"] [false,true]:=
 ⟨Answers.of_false_tuple (by decide) (by kernel_rfl) (by rw[isSubtype_type];kernel_rfl),Answers.of_true (by kernel_rfl) (by rw[isSubtype_type];kernel_rfl),trivial⟩
theorem Tf(hb:Bi g x (.builtin "isinstance"))(Y:Bi g t (.type "list"))(S:Bi g u (.type "tuple"))(hk:sc.names.lookup x=some .globalImplicit)(P:sc.names.lookup t=some .globalImplicit)(C:sc.names.lookup u=some .globalImplicit)
  (h:Ev g ⟨sc,vs,d,q⟩ e J M (λv w=>((∃ a l,v=.ref a/\w a=some (.L l))∨∃ l,v=.tup l)/\Q (.bool true) w) X) (hd:(x==("__debug__" : Str))=false) (y:(t==("__debug__" : Str))=false) (D:(u==("__debug__" : Str))=false)
  (he:∀ env,pg [e,.Tuple [.Name t L,.Name u Ma] k O] env=(false,eval e env)::pg [.Tuple [.Name t L,.Name u Ma] k O] env):Ev g ⟨sc,vs,d,q⟩ (.Call (.Name x np) [e,.Tuple [.Name t L,.Name u Ma] k O] [] pos) J M Q X:=(λA env s I=>by
 k_extra"au";have hp:(backTo pos (pg [e,.Tuple [.Name t L,.Name u Ma] k O] env)).any (·.1)=false:=by rw[he];rfl
 refine fj hp (s8 hp (wpAny_items_cons (pgo (h A env s I) (λv H V w r Z E K=>wpAny_items_cons (wpAny_Tuple (wpAny_items_cons (Z.nB P y Y.1 Y.2 ?_)))) λN N p=>p) (he env)))
 refine wpAny_items_cons (Z.nB C D S.1 S.2 (wpAny_items_nil ⟨by decide,wpAny_items_nil ?_⟩))
 have T:∀ b o,H.heap.get? b=some o->(H.heap.push {cls:=.type "tuple",data:=.seq [Value.type "list",Value.type "tuple"].toArray}).get? b=some o:=λb o e=>bZ _ e
 have F:∀ Ja,Step (inF A) f7 w w H {H with heap:=H.heap.push {cls:=.type "tuple",data:=.seq [Value.type "list",Value.type "tuple"].toArray},toks:=Ja}:=λJa=>Step.grow T
 obtain⟨hv,K⟩:=K;rcases hv with ⟨a,l,rfl,c⟩ | ⟨l,rfl⟩
 ·k_extra"cP"
  obtain⟨us,⟨n,R⟩,-⟩:=(Z.sim.objs a _ c).1;exact IsiPair.tupleOf co3 ⟨_,T _ _ R,rfl⟩ (cH _ rfl) λJa=>(λN U=>U (.bool true) w (.bool true) (Z.keep (F Ja) (Z.sim.grow T)) (E.trans (F Ja)) K)
 ·obtain⟨a,us,n,rfl,R,-⟩:=r.az
  exact IsiPair.tupleOf bR0 ⟨_,T _ _ R,rfl⟩ (cH _ rfl) λJa=>(λN U=>U (.bool true) w (.bool true) (Z.keep (F Ja) (Z.sim.grow T)) (E.trans (F Ja)) K))
end
section
variable{g:G}{vs:List Str}{d:Nat}{q:Bool}{Q:V->Hp->Prop}
theorem bM1(E:List Int):∀ i,i<=E.length->preSum (λi=>E.getD i 0) i=(E.take i).sum:=by
 intro i;induction i with
 | zero=>intro _;rfl
 | succ i c=>
  intro h;rw[preSum,c (by exact Nat.le_of_succ_le h),cI,bO (h),List.take_succ_eq_append_getElem (h),List.sum_append]
  simp
theorem Yv{E:List Int}(H:M a=some (.L (E.map .int)))(h:Q (.int E.sum) M):Cl g ⟨sc,vs,d,true⟩ (.builtin "sum") [.ref a] J M Q X:=(λA R s us I r=>by
 k_extra"cY"
 k_extra"cv";refine a7 ((I.sim.objs a _ H).1) λvs hp rl=>a7 (LK rl) λps e qa=>?_
 clear rl;clear r0;clear H;rw[<- qa] at h;k_extra"cQ";k_extra"aR"
 refine call_sum_walkAnyS (wpAny_pyIter_list hp.isList ?_);have Ja:vs.size=(ps.map (·.1)).length:=by rw[<- cB,e,bQ,bQ]
 refine⟨_,_,_,_,_,_,_,λi=>(ps.map (·.1)).getD i 0,rfl,(Walks.list (A:=A.in1) (I.quiet rfl) s.heap.objs.size a hne vs).toS,⟨⟨_,cH _ rfl,rfl,rfl⟩,hp.isList.push _⟩,?_,λi v w=>?_,λO t' L=>?_⟩
 ·intro b Y
  have U:b=s.heap.objs.size∨b=a:=by simpa using Y
  clear hne;clear Y;rcases U with rfl | rfl
  ·exact dJ (cH _ rfl)
  ·exact d4 hp λc hc=>dJ (bZ _ hc)
 ·have:vs.toList[i]?=some v:=by rw[cM];exact w
  rw[e,bW] at this;refine a7 (cL.mp this) λp u qa=>?_;clear w;clear this;subst qa
  refine⟨p.2,?_⟩;show _=Value.int ((ps.map (·.1)).getD i 0) p.2
  rw[cI,bW,u];rfl
 ·have x:∀ b o,s.heap.get? b=some o->O.heap.get? b=some o:=λb o e=>L.heap b o (λq=>by simp at q;rw[q,hfr] at e;exact i6 e) (bZ _ e)
  obtain⟨u,Z,T,C,S⟩:=O;obtain⟨-,Ma,K,y,-⟩:=L;simp only at Ma K y x
  subst Ma K y;have D:Step (inF A) f7 M M s {s with heap:=u,toks:=C}:=Step.grow x
  rw[Ja,bM1 _ _ (cO _),iV];exact(λz_ P=>P (.int _) M (.int _ _) (I.keep D (I.sim.grow x)) D h))
theorem PL{l:List V}{n:Int}(c:M a=some (.L l))(hz:l.length<=10000)(Y:0<=n)(Z:n<=l.length)(h:Q .none (upd M a (.L (l.take n.toNat++x::l.drop n.toNat)))):Cl g F (.builtin "list.insert") [.ref a,.int n,x] J M Q X:=(λA R s L I r=>by
 refine g6 r.aj λO U Ja r0 u=>?_;clear r;subst Ja
 refine g6 u.two λw y Ja r2 K=>?_;clear u;subst Ja
 k_extra"cv";refine d4 r2.ofInt λt Ja=>?_;clear r0;clear r2;subst Ja
 obtain⟨vs,⟨m,Ma⟩,rl⟩:=(I.sim.objs a _ c).1;k_extra"a6"
 refine call_meets PySem.F.slot_list_insert ⟨_,Ma,rfl⟩ PySem.F.entry_list_insert (PySem.F.args_list_insert_3 _ _ _) (PySem.AutoSeq1.list_insert_list_int_val_1 a vs m n t y (by unfold Builtin.List.listFitsIndex;simp;exact Um hz Y Z) (by rw[e];exact bN hz (by decide))) ⟨Ma,?_⟩
 obtain⟨P,D⟩:=zA (own:=f7) (tk:=s.toks) (f:=λH=>have k:=if n<0 then(n+(H.size:Int)).toNat else min n.toNat H.size;(H.extract 0 k).push y++H.extract k) (l':=l.take n.toNat++x::l.drop n.toNat) I c Ma (by
  have E:¬ n<0:=by exact Int.not_lt_of_ge Y
  have C:min n.toNat vs.size=n.toNat:=by rw[e];exact Gy Z
  simp only[if_neg E,C]
  have S:((vs.extract 0 n.toNat).push y++vs.extract n.toNat).toList=vs.toList.take n.toNat++y::vs.toList.drop n.toNat:=by
   simp
   exact jt (by simp)
  rw[S];exact(rl.take _).append (.cons K (rl.drop _)))
 exact(λz_ T=>T .none _ .none P D h))
end
def cl4(g:G)(F:Blk)(A:Around)(env:Env)(J:List (Option V))(M:Hp)(s:Shared)(ks:List Str)(Q:List V->Hp->Prop)(ps:List (Value×Value))(s':Shared):Prop:=
 ∀ c:Prop,(∀ (w:List V) (u:Hp) (k:d9 s'.heap (ps.map (·.1)) (ks.map .str)) (r:d9 s'.heap (ps.map (·.2)) w) (i:Inv g F A env J u s') (y:Step (inF A) f7 M u s s') (q:Q w u),c)->c
def Evk(g:G)(F:Blk)(c:List (Option Expr))(q:List Expr)(ks:List Str)(J:List (Option V))(M:Hp)(Q:List V->Hp->Prop)(X:Str->Hp->Prop):Prop:=
 ∀ A R s pos,Inv g F A R J M s->wpAny (model g.prog g.w) A (evalPairs (pairTrees c q R pos)) (cl4 g F A R J M s ks Q) (j6 g F A R J M s X) s
section
variable{g:G}
theorem WX(h:Q [] M):Evk g F [] [] [] J M Q X:=(λA R s pos I=>pairTrees_nil_walk (λz_ c=>c [] M .nil .nil I Step.refl h))
theorem co4
  (h:Ev g F Ja J M (λK w=>K=.str k/\Ev g F L J w (λv O=>Evk g F c u ks J O (λl Ma=>Q (v::l) Ma) X) X) X):Evk g F (some Ja::c) (L::u) (k::ks) J M Q X:=(λA R s pos I=>by
 refine pairTrees_cons_walk (pgo (h A R s I) (λK D Vk w rk Z E H=>?_) λN N p=>p)
 refine d5 H λqa x=>?_;clear H;rw[qa] at rk
 refine pgo (x A R D Z) (λv T V O rv U C y=>?_) λN N p=>p.step E
 refine oO (y A R T pos U) (λps P p=>?_) λN N p=>p.step (E.trans C)
 refine p _ ?_;clear p;rintro Vs Ma k3 r3 Y S q;exact(λN k_=>k_ (V::Vs) Ma (.cons (rk.mono (C.trans S).ak) k3) (.cons (rv.mono S.ak) r3) Y ((E.trans C).trans S) q))
theorem cb0:∀ {ps:List (Value×Value)} {C:List Str},d9 h (ps.map (·.1)) (C.map .str)->Carries (kdS g).knd ps (C.zip (ps.map (·.2))):=by
 intro ps;induction ps with
 | nil=>intro C r;cases C with
  | nil=>trivial
  | cons k C=>refine g6 r.aj λN N e N N=>?_;cases e
 | cons p ps q=>
  intro C r;cases C with
  | nil=>cases r.aA
  | cons k C=>
   refine g6 r.aj λv L e r1 r2=>d5 (List.cons.inj e) λE c=>?_
   obtain⟨a,b⟩:=p;subst E c;exact⟨(kdS g).rep _ _ _ r1,rfl,q r2⟩
theorem bn1(H:c.all (·.isSome)=true)(hl:c.length=w.length)(h0:c≠[])(U:c.length<=15)(hn:ks.Nodup)
  (h:Evk g F c w ks J M (λl O=>∀ a,O a=none->Q (.ref a) (upd O a (.ds (ks.zip l)))) X):Ev g F (.Dict c w pos) J M Q X:=(λA R s I=>by
 refine wpAny_Dict_walk (knd:=(kdS g).knd) H hl h0 U ((X8 (Q:=λv y=>∃ a,v=.ref a/\y=upd M a (.ds [])/\M a=none) (o:=.ds []) I (Y6 (o:={cls:=.type "dict",data:=.dict #[]})) (u5 _) (wg (kdS g) (qj I)) λa Ma=>⟨a,rfl,rfl,Ma⟩) _ ?_)
 rintro V y r Z E ⟨a,rfl,rfl,Ma⟩;have e0:=Value.ref.inj r.aa;refine oO (h A R _ pos (Z.sub (Sub.upd (o:=.ds []) Ma))) (λps P p=>?_) λe P p=>?_
 ·k_extra"3";rintro Vs u hk hr I' st hQ
  refine d5 (qP Z I' st Ma) λY D=>?_
  have st13:=E.trans (C6 (o:=.ds []) (a:=a) st);rw[e0];have T:=Y.dict (kdS g) (L:=[]) (d6 _ _ _);refine(id T) _ ?_;rintro kvs hd hv hsm;obtain rfl:=hv.aA;have e1:(ps.map (·.1)).length=ks.length:=by rw[hk.length,bQ]
  have e2:=hr.length;rw[bQ] at e1 e2;refine⟨ks.zip (ps.map (·.2)),cb0 hk,hd,λh' K S=>?_⟩
  rw[merged_nil_of_nodup _ (by rw[lM (by rw[bQ];exact Ei e1)];exact hn)] at K
  have tu:=wA (kdS g) S T;have dr:o6 (kdS g).knd h' a (ks.zip Vs):=(λN k_=>k_ _ K ⟨by rw[lM (by rw[bQ];exact Ei e1),lM (by lia)],by rw[lO (by rw[bQ];exact cu e1),lO (by lia)];exact hr.mono tu⟩ hsm)
  obtain⟨C,x⟩:=U0 (fr:=inF A) (o':=.ds (ks.zip Vs)) (own:=f7) (tk:=P.toks+ps.length) Y (d6 _ _ _) dr S tu λN N N=>dr.isD
  rw[O1] at C x;exact(λN k_=>k_ (.ref a) _ (.ref a) C (st13.trans x) (hQ a D))
 ·k_extra"3";rintro V u r I' st q
  refine d5 (qP Z I' st Ma) λJa D=>?_
  have p2:j6 g F A R J (upd M a (.ds [])) _ (λv O=>∃ u,O=upd u a (.ds [])/\u a=none/\X v u) e P:=(λN k_=>k_ V _ (r.frame (Z.sim.objs a _ (d6 _ _ _)).1) Ja (C6 st) ⟨u,rfl,D,q⟩)
  exact p2.bj E)
end
theorem bp3:typeLookup (.type "list") (bM "keys")=pure none:=by rw[typeLookup_type,builtinLookup_eq_fast];kernel_rfl
theorem bR1{prog:Program}{w:World}
  (U:s.heap.get? a=some {cls:=.type "list",data:=.seq xs k}) (y:A.handled=none)
  (h:∀ h' tk,(∀ b o,s.heap.get? b=some o->h'.get? b=some o)->Q none {s with heap:=h',toks:=tk}):wpAny (model prog w) A (getAttr? (.ref a) (bM "keys")) Q E s:=by
 obtain⟨hp,g,d,tk,os⟩:=s;have D:∀ C,(⟨hp,g,d,C,os⟩:Shared).TypeIs (.ref a) "list":=λz_=>⟨_,U,rfl⟩
 have q:=sub_AttributeError;have u:=F.slot_list_getattribute.lookup;have Ja:=F.slot_list_getattribute.bind (.ref a);have L:=am_list_getattr_none;unfold getAttr? getAttrBy? getAttrBy
 repeat (any_goals (first | assumption | exact D _ | ((with_reducible show wpAny _ _ (call (Value.builtin "list.__getattribute__") _ _) _ _ _);refine call_meets F.slot_list_getattribute (D _) am_entry_list_getattribute (F.args_list_getattribute_2 _ _) (meets_getattribute_miss_list a xs k #[] (bM "keys") _ bp3 (by k_extra"#")) ⟨U,y,λh' C e x=>?_⟩) | wp_step))
 refine j7 x.there λMa O H=>?_
 have c:∀ C,(⟨h',g,d,C,os⟩:Shared).TypeIs (.ref e) "AttributeError":=λz_=>⟨_,H,rfl⟩
 show wpAny _ _ (getattributeRaised _ _ _ _ _ _ _) _ _ _;unfold getattributeRaised
 repeat (any_goals (first | assumption | exact c _ | wp_step))
 exact h _ _ x.keeps
theorem Et:entryFor table "dict.update.loop" = some Builtin.«dict.update.loop»:=entryFor_of_tree (by kernel_rfl)
theorem Y8:plainId "dict.update.loop" = true:=by k_extra"#"
section
variable{w:World}{K:Type}[DecidableEq K]{knd:KeyKind prog w K}{R:Result->Shared->Prop}{I:Addr}{fp wr:List Addr}{G:Array GenState->Array GenState->Prop}{n:Nat}{P:Nat->Value->Prop}{St:Nat->Shared->Prop}
theorem RZ(W:WalksS prog w A.in1 I fp wr G n P St)(D:Addr)(X:D∉fp)(h0:Heap)(kvs:List (K×Value))(hn:kvs.length=n)(hz:n<=10000)
  (hP:∀ i v,P i v->∃ t k x u m,v=.ref t/\kvs[i]?=some (k,x)/\h0.get? t=some {cls:=.type "tuple",data:=.seq #[u,x] m}/\knd.is k u=true/\t≠D/\t∉wr) :
  ∀ (k i:Nat) (s:Shared),n-i=k->i<=n->St i s->s.heap.DictOf knd D (merged [] (kvs.take i))->(∀ b o,b∉wr->b≠D->h0.get? b=some o->s.heap.get? b=some o)->
   (∀ c,Moved (D::wr) G s c->c.heap.DictOf knd D (merged [] kvs)->R (.ok (.ret .none)) c)->
   codeAny (model prog w) A (.builtin "dict.update.loop" ⟨[.ref D,.ref I,rawInt i,.none],[]⟩) R s:=by
 have hDw:D∉wr:=λh=>X (W.sub _ h)
 have U:∀ b∈wr,b∈D::wr:=λb Y=>dX _ Y
 have q:∀ {s c:Shared} {l},Moved wr G s c->s.heap.DictOf knd D l->c.heap.DictOf knd D l:=λy hd=>by
  exact v9 hd λo es ep ho rest=>⟨o,es,ep,y.heap D _ hDw ho,rest⟩
 intro k;induction k with
 | zero=>
  intro i s hk hi Ja hS F hR;have hin:i=n:=Bm hk hi;subst hin;rw[<- hn,iV] at hS;exact L4 Et Y8 (oM (m:=pyNext (.ref I)) (W.done s _ _ Ja λc y=>oM (m:=Builtin.Dict.addKeywords D []) (oN (oN (hR c (y.mono U) (q y hS))))))
 | succ k ih=>
  intro i s hk hi Ja hS F hR;have O:i<n:=Dj hk;refine L4 Et Y8 (oM (m:=pyNext (.ref I)) (W.item i s _ _ O Ja λv c hPv Q y=>Yt (hP i v hPv) λt ky x u m qa hkv ht E htD C=>?_))
  subst qa;have Z:=y.heap t _ C (F t _ C htD ht);refine oM (oX (oM (wpAny_tryCatch (oM (wpAny_typeOf (T:="tuple") ⟨_,Z,rfl⟩ (wP (by decide) (oM (wpAny_seqItems Z rfl (oN (oX (wpAny_dictSet_pairs E (q y hS) (λh' Ma S=>?_) ?_)))))))))))
  ·rw[<- merged_take_succ [] kvs i (ky,x) hkv] at Ma
   refine oN ⟨oZ Y8 _,ih (i+1) _ (Dy hk) O (W.frame _ c _ _ Q (iZ _) λb Y o e=>?_) Ma (λb o h1 h2 h3=>?_) λs'' H L=>?_⟩
   ·rw[S.2 b (λh:b=D=>X (by rw[<- h];exact Y))];exact e
   ·rw[S.2 b h2];exact y.heap b o h1 (F b o h1 h2 h3)
   ·refine hR s'' (Moved.trans W.gtrans ((y.mono U).then_heap (iZ _) λb o Y e=>?_) H) L
    rw[S.2 b (λh:b=D=>Y (by rw[h];exact fX))];exact e
  ·refine bN (merged_length_le _ _) ?_
   rw[gZ,mD,sizeLine_eq];lia
theorem cj2(Z:A.handled=none)(hx:s.heap.get? l=some {cls:=.type "list",data:=.seq xs m})(kvs:List (K×Value))(hn:kvs.length=xs.size)(hz:xs.size<=10000)
  (hP:∀ (i:Nat) (v:Value),xs[i]?=some v->∃ t k x u m,v=Value.ref t/\kvs[i]?=some (k,x)/\s.heap.get? t=some {cls:=.type "tuple",data:=.seq #[u,x] m}/\knd.is k u=true)
  (h:∀ h' tk,h'.DictOf knd s.heap.objs.size (merged [] kvs)->(∀ b o,s.heap.get? b=some o->h'.get? b=some o)->Q (.ref s.heap.objs.size) {s with heap:=h',toks:=tk}) :
  wpAny (model prog w) A (call (.type "dict") [.ref l]) Q E s:=by
 refine callType_codes (Q₁:=fun(Ma:Value) (y:Shared)=>Ma=Value.ref s.heap.objs.size/\y={s with heap:=s.heap.push {cls:=.type "dict",data:=.dict #[]}}) PySem.F.kt_called_dict (PySem.F.kt_typeCall_dict_1 _) PySem.F.entry_dict_init (kt_code_dict_new _ ⟨rfl,rfl⟩) ?_
 rintro Ma y hh;refine d5 hh λJa qb=>?_;clear hh;subst Ja;subst qb
 have c:(s.heap.push {cls:=.type "dict",data:=.dict #[]}).DictOf knd s.heap.objs.size []:=Heap.DictOf.new s.heap;have D:(s.heap.push {cls:=.type "dict",data:=.dict #[]}).get? l=some {cls:=.type "list",data:=.seq xs m}:=bZ _ hx;refine⟨c.typeIs,PySem.F.args_dict_init_2 _ _,?_⟩;unfold Builtin.«dict.__init__»;refine oM ?_;unfold Builtin.Dict.selfAndRest;refine oM (wpAny_notOrdered_dict c.typeIs ?_);show wpAny _ _ (pure (s.heap.objs.size,[Value.ref l])) _ _ _;refine oN ?_;show wpAny _ _ (Builtin.Dict.updateFrom "dict.__init__" s.heap.objs.size (.ref l) [] .none) _ _ _;unfold Builtin.Dict.updateFrom;refine oM (wpAny_typeOf (T:="list") ⟨_,D,rfl⟩ ?_);rw[if_pos (by decide)]
 refine oM (bR1 D Z λS tk2 C=>?_)
 rw[if_pos (by decide)]
 refine oM (wpAny_rule ?_);have L:=C _ _ D;have H:S.IsList l xs:=⟨_,L,rfl,_,rfl⟩;refine oM (wpAny_pyIter_list H ?_);have hDlt:s.heap.objs.size<S.objs.size:=by
  exact v9 c λo es ep ho N=>dJ (C _ _ ho)
 have U:l≠S.objs.size:=λq=>by have:=dJ L;lia
 have hld:l≠s.heap.objs.size:=Ez (dJ hx);have F:∀ (o':Obj) b o,s.heap.get? b=some o->(S.push o').get? b=some o:=λo' b o e=>bZ _ (C b o (bZ _ e))
 refine oN ⟨oZ Y8 _,RZ (knd:=knd) (A:=A.in1) (Walks.list (A:=A.in1.in1) Z S.objs.size l U xs).toS s.heap.objs.size ?_ _ kvs hn hz ?_ xs.size 0 _ rfl (cP _) ⟨⟨_,cH _ rfl,rfl,rfl⟩,H.push _⟩ ?_ (λb o N N e=>e) λX O hd=>?_⟩
 ·intro O
  have hm':s.heap.objs.size=S.objs.size∨s.heap.objs.size=l:=by simpa using O
  lia
 ·intro i v hv
  refine bV1 (hP i v hv) λt k x u m' Ja h1 Y h4=>?_;subst Ja
  have:=dJ Y;refine⟨t,k,x,u,m',rfl,h1,F _ _ _ Y,h4,by exact Ez this,?_⟩
  simp
  lia
 ·exact(c.keep C).push _
 ·refine⟨rfl,?_⟩
  have e:=Moved.eq_with O;rw[show X={s with heap:=X.heap,toks:=X.toks} from e]
  refine h _ _ hd λb o e=>O.heap b o ?_ (F _ b o e)
  have:=dJ e;simp
  lia
end
section
variable{g:G}{vs:List Str}{d:Nat}{q:Bool}{Q:V->Hp->Prop}
noncomputable def F7(p:Str×V):V:=.tup [.str p.1,p.2]
def Ul(g:G)(h:Heap)(L:List Value)(ps:List (Str×V)):Prop:=
 ∀ w:Prop,(∀ (c:List (Str×Value)) (r:KVs h c ps) (hl:c.length=L.length) (at':∀ (i:Nat) (v:Value),L[i]?=some v->∃ t k x u m,v=Value.ref t/\c[i]?=some (k,x)/\h.get? t=some {cls:=.type "tuple",data:=.seq #[u,x] m}/\(kdS g).knd.is k u=true),w)->w
theorem Qm:∀ {ps:List (Str×V)} {us:List Value},d9 h us (ps.map F7)->Ul g h us ps:=by
 intro ps;induction ps with
 | nil=>intro us r;obtain rfl:=r.aA;exact(λz_ c=>c [] ⟨rfl,.nil⟩ rfl (λi v e=>by exact i6 e))
 | cons p ps C=>
  intro us r;k_extra"7";clear r;subst qa
  refine(C r2) _ ?_;rintro y ⟨D,E⟩ hl S;refine k9 r1.az λt I m qa R A=>?_;clear r1;subst qa
  refine g6 A.two λu x e H Z=>?_
  clear A;obtain rfl:I=#[u,x]:=Array.toList_inj.mp e;refine(λz_ c=>c ((p.1,x)::y) ⟨by rw[gM,gM,D],.cons Z E⟩ (by rw[dD,dD,hl]) (λi v w=>?_))
  cases i with
  | zero=>replace w:=d7 w;clear e;subst w;exact⟨t,p.1,x,u,m,rfl,rfl,R,(kdS g).rep _ _ _ H⟩
  | succ i=>exact S i v w
theorem Zx{ps:List (Str×V)}(hM:M a=some (.L (ps.map F7)))(x:(ps.map (·.1)).Nodup)(hz:ps.length<=10000)(h:∀ b,M b=none->Q (.ref b) (upd M b (.ds ps))):Cl g ⟨sc,vs,d,true⟩ (.type "dict") [.ref a] J M Q X:=(λA R s L I r=>by
 k_extra"M"
 k_extra"cv";k_extra"cz";refine(Qm (g:=g) rl) _ ?_;rintro c T hl S;rw[cB] at hl;have E:vs.size=ps.length:=by rw[<- cB,rl.length,bQ]
 refine cj2 (knd:=(kdS g).knd) (I.quiet rfl) ho c hl (by lia) (λi v w=>S i v (by rw[cM];exact w)) λy D u K=>?_
 rw[merged_nil_of_nodup _ (by rw[T.1];exact x)] at u
 exact X8 (o:=.ds ps) I ⟨K,rfl,rfl⟩ (u5 _) (λN C=>C c u (T.mono λb N N e=>K b _ e) (qj I)) h)
end
noncomputable def szs:List (Str×Int):=[("number",2),("paper",2),("line",2),("earlier",2),("add",3),("take",3),("least",3),("most",3),("part",3),("table",3),("where",4),("choose",4)]
def siz(w:Str):Option Int:=szs.lookup w
noncomputable def G7:Str:="abcdefghijklmnopqrstuvwxyz"
noncomputable def f8(v:V)(u q:Int):Bool:=match v with
 | .int i=>decide (u<=i)&&decide (i<=q)
 | _=>false
def m9(x:Str):Bool:=decide (1<=x.length)&&decide (x.length<=8)&&x.cps.toList.all λc=>Txt.contains G7 ⟨#[c]⟩
def x5(v:V):Bool:=match v with
 | .str x=>m9 x
 | _=>false
noncomputable def rP(w:Str):Bool:=[("number" : Str),"paper","line","earlier"].any (· == w)
def g8(w:Str)(args:List V):List V:=
 if rP w then[] else if w == "part" then args.take 1 else if w == "table" || w == "choose" then args.drop 1 else args
noncomputable def arg(args:List V)(k:Nat):V:=(args[k]?).getD .none
structure Lim where
 L:Int
 T:Int
 C:Int
def fit(z:Lim)(w:Str)(args:List V):Bool:=
 if w == "number" then f8 (arg args 0) (0-1000000000) 1000000000
 else if w == "paper" then x5 (arg args 0)
 else if w == "line" || w == "earlier" then f8 (arg args 0) 0 (z.L-1)
 else if w == "part" then f8 (arg args 1) 0 100
 else if w == "table" then f8 (arg args 0) 0 (z.T-1)
 else if w == "choose" then f8 (arg args 0) 0 (z.C-1)
 else true
noncomputable def ok(z:Lim):Nat->V->Bool
 | 0,_=>false
 | n+1,.tup (.str w::args)=>(siz w==some ((args.length:Int)+1))&&fit z w args&&(g8 w args).all (ok z n)
 | _+1,_=>false
noncomputable def f9:Nat->V->Str->List V
 | 0,_,_=>[]
 | n+1,.tup (.str w::args),u=>(if w==u then[arg args 0] else[])++((g8 w args).map λr=>f9 n r u).flatten
 | _+1,_,_=>[]
theorem S2(z:Lim)(n:Nat)(w:Str)(args:List V):ok z (n+1) (.tup (.str w::args))=((siz w==some ((args.length:Int)+1))&&fit z w args&&(g8 w args).all (ok z n)):=rfl
theorem H9(n:Nat)(w:Str)(args:List V)(u:Str):f9 (n+1) (.tup (.str w::args)) u=(if w==u then[arg args 0] else[])++((g8 w args).map λr=>f9 n r u).flatten:=rfl
theorem ff{P:Prop}(h:false=true):P:=(bU h).elim
theorem bA2{q u:Type}[BEq q][LawfulBEq q]{l:List (q×u)}{a:q}{b:u}(h:l.lookup a=some b):(a,b)∈l:=by
 induction l with
 | nil=>cases h
 | cons p l A=>
  obtain⟨x,y⟩:=p;rw[eU] at h;cases U:a==x with
  | true=>rw[U] at h;replace h:=d7 h;subst h;rw[beq_iff_eq.mp U];exact fX
  | false=>rw[U] at h;exact dX _ (A h)
theorem X4{w:Str}(h:siz w=some n):(w,n)∈szs:=bA2 h
class inductive GR (z:Lim) (see:Int->Prop) (wd:Str->Prop):Nat->V->Prop
 | num {d:Nat} {i:Int}:0-1000000000<=i->i<=1000000000->GR z see wd (d+1) (.tup [.str "number",.int i])
 | line {d:Nat} {i:Int}:see i->GR z see wd (d+1) (.tup [.str "line",.int i])
 | au {d:Nat} {i:Int}:0<=i->i<z.L->GR z see wd (d+1) (.tup [.str "earlier",.int i])
 | aD {d:Nat} {x:Str}:wd x->GR z see wd (d+1) (.tup [.str "paper",.str x])
 | part {d:Nat} {r:V} {i:Int}:GR z see wd d r->0<=i->i<=100->GR z see wd (d+1) (.tup [.str "part",r,.int i])
 | table {d:Nat} {r:V} {i:Int}:GR z see wd d r->0<=i->i<z.T->GR z see wd (d+1) (.tup [.str "table",.int i,r])
 | aP {d:Nat} {w:Str} {r t:V}:w∈[("add" : Str),"take","least","most"]->GR z see wd d r->GR z see wd (min d 2) t->GR z see wd (d+1) (.tup [.str w,r,t])
 | aQ {d:Nat} {w:Str} {r t:V}:w∈[("add" : Str),"take","least","most"]->GR z see wd (min d 2) r->GR z see wd d t->GR z see wd (d+1) (.tup [.str w,r,t])
 | aN {d:Nat} {r t u:V}:GR z see wd d r->GR z see wd (min d 2) t->GR z see wd (min d 2) u->GR z see wd (d+1) (.tup [.str "where",r,t,u])
 | aM {d:Nat} {r t u:V}:GR z see wd (min d 2) r->GR z see wd d t->GR z see wd (min d 2) u->GR z see wd (d+1) (.tup [.str "where",r,t,u])
 | bu {d:Nat} {r t:V} {i:Int}:0<=i->i<z.C->GR z see wd d r->GR z see wd (min d 2) t->GR z see wd (d+1) (.tup [.str "choose",.int i,r,t])
 | aZ {d:Nat} {r t:V} {i:Int}:0<=i->i<z.C->GR z see wd (min d 2) r->GR z see wd d t->GR z see wd (d+1) (.tup [.str "choose",.int i,r,t])
theorem r5(h:d+1<=e):∃ k,e=k+1/\d<=k:=by
 cases e with
 | zero=>exact absurd h (Nat.not_succ_le_zero _)
 | succ e=>exact⟨e,rfl,jw h⟩
theorem pI(h:d<=k):min d 2<=min k 2:=Nat.le_min.mpr ⟨bN (eQ _ _) h,gW _ _⟩
theorem GR.le{z:Lim}(h:GR z q C d r):∀ {e:Nat},d<=e->GR z q C e r:=by
 induction h with
 | num a b=>intro e he;refine a7 (r5 he) λe qa hk=>?_;subst qa;exact .num a b
 | line a=>intro e he;refine a7 (r5 he) λe qa hk=>?_;subst qa;exact .line a
 | au a b=>intro e he;refine a7 (r5 he) λe qa hk=>?_;subst qa;exact .au a b
 | aD a=>intro e he;refine a7 (r5 he) λe qa hk=>?_;subst qa;exact .aD a
 | part _ a b A=>intro e he;refine a7 (r5 he) λe qa hk=>?_;subst qa;exact .part (A hk) a b
 | table _ a b A=>intro e he;refine a7 (r5 he) λe qa hk=>?_;subst qa;exact .table (A hk) a b
 | aP a _ _ Y Ma=>intro e he;refine a7 (r5 he) λe qa hk=>?_;subst qa;exact .aP a (Y hk) (Ma (pI hk))
 | aQ a _ _ Y Ma=>intro e he;refine a7 (r5 he) λe qa hk=>?_;subst qa;exact .aQ a (Y (pI hk)) (Ma hk)
 | aN _ _ _ Y Ma u=>intro e he;refine a7 (r5 he) λe qa hk=>?_;subst qa;exact .aN (Y hk) (Ma (pI hk)) (u (pI hk))
 | aM _ _ _ Y Ma u=>intro e he;refine a7 (r5 he) λe qa hk=>?_;subst qa;exact .aM (Y (pI hk)) (Ma hk) (u (pI hk))
 | bu a b _ _ Y Ma=>intro e he;refine a7 (r5 he) λe qa hk=>?_;subst qa;exact .bu a b (Y hk) (Ma (pI hk))
 | aZ a b _ _ Y Ma=>intro e he;refine a7 (r5 he) λe qa hk=>?_;clear he;subst qa;exact .aZ a b (Y (pI hk)) (Ma hk)
theorem bs8:siz "number" = some 2:=by k_extra"#"
theorem vL(a:List V):g8 "number" a=[]:=if_pos (by k_extra"#")
theorem rB(z:Lim)(a:List V):fit z "number" a=f8 (arg a 0) (0-1000000000) 1000000000:=if_pos (by k_extra"#")
theorem J0:siz "paper" = some 2:=by k_extra"#"
theorem vN(a:List V):g8 "paper" a=[]:=if_pos (by k_extra"#")
theorem rZ(z:Lim)(a:List V):fit z "paper" a=x5 (arg a 0):=(if_neg (by k_extra"#")).trans (if_pos (by k_extra"#"))
theorem ci0:siz "line" = some 2:=by k_extra"#"
theorem vR(a:List V):g8 "line" a=[]:=if_pos (by k_extra"#")
theorem X9(z:Lim)(a:List V):fit z "line" a=f8 (arg a 0) 0 (z.L-1):=(if_neg (by k_extra"#")).trans ((if_neg (by k_extra"#")).trans (if_pos (by k_extra"#")))
theorem J2:siz "earlier" = some 2:=by k_extra"#"
theorem vQ(a:List V):g8 "earlier" a=[]:=if_pos (by k_extra"#")
theorem qu(z:Lim)(a:List V):fit z "earlier" a=f8 (arg a 0) 0 (z.L-1):=(if_neg (by k_extra"#")).trans ((if_neg (by k_extra"#")).trans (if_pos (by k_extra"#")))
theorem Vg:siz "add" = some 3:=by k_extra"#"
theorem rH(a:List V):g8 "add" a=a:=(if_neg (by k_extra"#")).trans ((if_neg (by k_extra"#")).trans (if_neg (by k_extra"#")))
theorem yo(z:Lim)(a:List V):fit z "add" a=true:=(if_neg (by k_extra"#")).trans ((if_neg (by k_extra"#")).trans ((if_neg (by k_extra"#")).trans ((if_neg (by k_extra"#")).trans ((if_neg (by k_extra"#")).trans (if_neg (by k_extra"#"))))))
theorem Pa:siz "take" = some 3:=by k_extra"#"
theorem sZ(a:List V):g8 "take" a=a:=(if_neg (by k_extra"#")).trans ((if_neg (by k_extra"#")).trans (if_neg (by k_extra"#")))
theorem yc(z:Lim)(a:List V):fit z "take" a=true:=(if_neg (by k_extra"#")).trans ((if_neg (by k_extra"#")).trans ((if_neg (by k_extra"#")).trans ((if_neg (by k_extra"#")).trans ((if_neg (by k_extra"#")).trans (if_neg (by k_extra"#"))))))
theorem bR9:siz "least" = some 3:=by k_extra"#"
theorem qG(a:List V):g8 "least" a=a:=(if_neg (by k_extra"#")).trans ((if_neg (by k_extra"#")).trans (if_neg (by k_extra"#")))
theorem yD(z:Lim)(a:List V):fit z "least" a=true:=(if_neg (by k_extra"#")).trans ((if_neg (by k_extra"#")).trans ((if_neg (by k_extra"#")).trans ((if_neg (by k_extra"#")).trans ((if_neg (by k_extra"#")).trans (if_neg (by k_extra"#"))))))
theorem bu4:siz "most" = some 3:=by k_extra"#"
theorem rE(a:List V):g8 "most" a=a:=(if_neg (by k_extra"#")).trans ((if_neg (by k_extra"#")).trans (if_neg (by k_extra"#")))
theorem zE(z:Lim)(a:List V):fit z "most" a=true:=(if_neg (by k_extra"#")).trans ((if_neg (by k_extra"#")).trans ((if_neg (by k_extra"#")).trans ((if_neg (by k_extra"#")).trans ((if_neg (by k_extra"#")).trans (if_neg (by k_extra"#"))))))
theorem Hs:siz "part" = some 3:=by k_extra"#"
theorem L7(a:List V):g8 "part" a=a.take 1:=(if_neg (by k_extra"#")).trans (if_pos (by k_extra"#"))
theorem qg(z:Lim)(a:List V):fit z "part" a=f8 (arg a 1) 0 100:=(if_neg (by k_extra"#")).trans ((if_neg (by k_extra"#")).trans ((if_neg (by k_extra"#")).trans (if_pos (by k_extra"#"))))
theorem Yu:siz "table" = some 3:=by k_extra"#"
theorem K4(a:List V):g8 "table" a=a.drop 1:=(if_neg (by k_extra"#")).trans ((if_neg (by k_extra"#")).trans (if_pos (by k_extra"#")))
theorem qQ(z:Lim)(a:List V):fit z "table" a=f8 (arg a 0) 0 (z.T-1):=(if_neg (by k_extra"#")).trans ((if_neg (by k_extra"#")).trans ((if_neg (by k_extra"#")).trans ((if_neg (by k_extra"#")).trans (if_pos (by k_extra"#")))))
theorem De:siz "where" = some 4:=by k_extra"#"
theorem C1(a:List V):g8 "where" a=a:=(if_neg (by k_extra"#")).trans ((if_neg (by k_extra"#")).trans (if_neg (by k_extra"#")))
theorem ux(z:Lim)(a:List V):fit z "where" a=true:=(if_neg (by k_extra"#")).trans ((if_neg (by k_extra"#")).trans ((if_neg (by k_extra"#")).trans ((if_neg (by k_extra"#")).trans ((if_neg (by k_extra"#")).trans (if_neg (by k_extra"#"))))))
theorem CX:siz "choose" = some 4:=by k_extra"#"
theorem B9(a:List V):g8 "choose" a=a.drop 1:=(if_neg (by k_extra"#")).trans ((if_neg (by k_extra"#")).trans (if_pos (by k_extra"#")))
theorem X0(z:Lim)(a:List V):fit z "choose" a=f8 (arg a 0) 0 (z.C-1):=(if_neg (by k_extra"#")).trans ((if_neg (by k_extra"#")).trans ((if_neg (by k_extra"#")).trans ((if_neg (by k_extra"#")).trans ((if_neg (by k_extra"#")).trans (if_pos (by k_extra"#"))))))
noncomputable def B(n:Nat):Nat:=Nat.casesOn n 0 λn=>Nat.casesOn n 1 λn=>9*n+4
theorem FW{a b c:Nat}(u:n≠0)(Ma:a<=B n)(Y:b<=B n)(K:b<=4)(O:c<=B n)(q:c<=4):1+a+b+c<=B (n+1):=by
 cases n with
 | zero=>exact absurd rfl u
 | succ n=>cases n with
  | zero=>
   have Z:B (0+1)=1:=rfl;rw[Z] at Ma Y O;have h:=iM (iM (fG Ma 1) Y) O;exact h
  | succ n=>
   exact bN (iM (iM (fG Ma 1) K) q) (cu (show 1+(9*n+4)+4+4=9*(n+1)+4 by lia))
theorem U3(h:n<=m):B n<=B m:=by
 induction h with
 | refl=>exact cO _
 | @step m _ q=>
  refine bN q ?_;cases m with
  | zero=>exact cP _
  | succ m=>exact bN (cT _ _) (FW (a:=B (m+1)) (b:=0) (c:=0) (jB _) (cO _) (cP _) (cP _) (cP _) (cP _))
theorem yK(h:k<=2):B k<=4:=U3 h
def Few(z:Lim)(r:V):Prop:=∀ n u,ok z n r=true->(f9 n r u).length<=B n
theorem Kq{c:Bool}{x:V}:(if c=true then[x] else[]).length<=1:=by cases c;exact cP 1;exact cO 1
theorem H7{z:Lim}{w:Str}(h:ok z n (.tup (.str w::args))=true):∃ m,n=m+1/\siz w=some ((args.length:Int)+1)/\fit z w args=true/\∀ x∈g8 w args,ok z m x=true:=by
 cases n with
 | zero=>exact ff h
 | succ m=>
  simp only[S2,eV,cX,beq_iff_eq] at h
  exact⟨m,rfl,h.1.1,h.1.2,h.2⟩
theorem Ie{w:Str}:(f9 (n+1) (.tup (.str w::args)) u).length<=1+((g8 w args).map λr=>(f9 n r u).length).sum:=by
 simp only[H9,cC,nZ,fK,Function.comp_def]
 exact fQ Kq _
structure Sz(z:Lim)(r:V)(k:Nat):Prop where
 pos:k≠0
 le:∀ n,ok z n r=true->k<=n
 few:∀ n u,ok z n r=true->(f9 n r u).length<=B k
section
variable{z:Lim}{w:Str}{x y t:V}{a b c:Nat}
theorem qX(e:g8 w args=[]):Sz z (.tup (.str w::args)) 1:=by
 refine⟨Nat.one_ne_zero,λn h=>?_,λn u h=>?_⟩
 ·refine a7 (H7 h) λm qa N=>?_;subst qa;exact cT _ _
 ·refine a7 (H7 h) λm qa N=>?_;subst qa
  have:=Ie (n:=m) (w:=w) (args:=args) (u:=u);rw[e] at this;exact this
theorem yZ(K:k≠0)(A:∀ n,(∀ y∈g8 w args,ok z n y=true)->k<=n)(P:∀ n u,(∀ y∈g8 w args,ok z n y=true)->∃ p q r,((g8 w args).map λr=>(f9 n r u).length).sum=p+q+r/\p<=B k/\(q<=B k/\q<=4)/\r<=B k/\r<=4):Sz z (.tup (.str w::args)) (k+1):=by
 refine⟨jB _,λn h=>?_,λn u h=>?_⟩
 ·k_extra"c9";exact fB (A m hi)
 ·k_extra"c9"
  obtain⟨p,q,r,e,Z,⟨S,C⟩,X,E⟩:=P m u hi;have U:=Ie (n:=m) (w:=w) (args:=args) (u:=u);rw[e,<- gK,<- gK] at U;exact bN U (FW K Z S C X E)
theorem GX(e:g8 w args=[x])(U:Sz z x a):Sz z (.tup (.str w::args)) (a+1):=
 yZ U.pos (λn h=>U.le n (h x (by rw[e];exact mq _))) λn u h=>⟨(f9 n x u).length,0,0,by rw[e];rfl,U.few n u (h x (by rw[e];exact mq _)),⟨cP _,cP _⟩,cP _,cP _⟩
theorem qT(e:g8 w args=cs)(Z:x∈cs)(S:y∈cs)(E:t∈cs)(f:Nat->Str->Nat)(T:∀ n u,f n u=0∨f n u=(f9 n t u).length)(A:∀ n u,(cs.map λr=>(f9 n r u).length).sum=(f9 n x u).length+(f9 n y u).length+f n u)(U:Sz z x a)(L:Sz z y b)(R:Sz z t c)(Y:b<=2)(O:c<=2):Sz z (.tup (.str w::args)) (max a (max b c)+1):=by
 subst e;have Ma:a<=max a (max b c):=Nat.le_max_left _ _;have C:b<=max a (max b c):=bN (Nat.le_max_left _ _) (lQ _ _);have D:c<=max a (max b c):=bN (lQ _ _) (lQ _ _);refine yZ (λq=>U.pos (Nat.le_zero.mp (q▸Ma))) (λn h=>lC.mpr ⟨U.le n (h x Z),lC.mpr ⟨L.le n (h y S),R.le n (h t E)⟩⟩) λn u h=>?_
 have F:=L.few n u (h y S);have H:f n u<=B c:=by
  rcases T n u with q | q
  ·rw[q];exact cP _
  ·rw[q];exact R.few n u (h t E)
 exact⟨_,_,_,A n u,bN (U.few n u (h x Z)) (U3 Ma),⟨bN F (U3 C),bN F (yK Y)⟩,bN H (U3 D),bN H (yK O)⟩
theorem Ce(e:g8 w args=[x,y])(U:Sz z x a)(L:Sz z y b)(Y:b<=2):Sz z (.tup (.str w::args)) (max a (max b b)+1):=
 qT (t:=y) e (.head _) (.tail _ (.head _)) (.tail _ (.head _)) (λN N=>0) (λN N=>.inl rfl) (λn u=>rfl) U L L Y Y
theorem yQ(e:g8 w args=[y,x])(U:Sz z x a)(L:Sz z y b)(Y:b<=2):Sz z (.tup (.str w::args)) (max a (max b b)+1):=
 qT (t:=y) e (.tail _ (.head _)) (.head _) (.head _) (λN N=>0) (λN N=>.inl rfl) (λn u=>(jL (f9 n y u).length (f9 n x u).length)) U L L Y Y
theorem Qx(e:g8 w args=[x,y,t])(U:Sz z x a)(L:Sz z y b)(R:Sz z t c)(Y:b<=2)(O:c<=2):Sz z (.tup (.str w::args)) (max a (max b c)+1):=
 qT e (.head _) (.tail _ (.head _)) (.tail _ (.tail _ (.head _))) (λn u=>(f9 n t u).length) (λN N=>.inr rfl) (λn u=>(gK _ _ _).symm) U L R Y O
theorem ck8(e:g8 w args=[y,x,t])(U:Sz z x a)(L:Sz z y b)(R:Sz z t c)(Y:b<=2)(O:c<=2):Sz z (.tup (.str w::args)) (max a (max b c)+1):=
 qT e (.tail _ (.head _)) (.head _) (.tail _ (.tail _ (.head _))) (λn u=>(f9 n t u).length) (λN N=>.inr rfl) (λn u=>by rw[jL (f9 n x u).length];exact(gK _ _ _).symm) U L R Y O
end
theorem pF(h:k<=min d 2):k<=2:=bN h (gW _ _)
theorem led(h:k<=min d 2):k<=d:=bN h (eQ _ _)
theorem O0{a b c:Nat}(Ma:a<=d)(Y:b<=d)(O:c<=d):max a (max b c)+1<=d+1:=fB (lC.mpr ⟨Ma,lC.mpr ⟨Y,O⟩⟩)
theorem Q3{w:Str}(a:w∈[("add" : Str),"take","least","most"]):g8 w l=l:=by
 k_extra"a4"
 k_extra"b4"
 ·exact rH _
 ·exact sZ _
 ·exact qG _
 ·exact rE _
theorem Er{w:Str}(a:w∈[("add" : Str),"take","least","most"]):siz w=some 3:=by
 k_extra"a4"
 k_extra"b4"
 ·exact Vg
 ·exact Pa
 ·exact bR9
 ·exact bu4
theorem GR.sz{z:Lim}{D:Str->Prop}(h:GR z C D d r):∃ k,k<=d/\Sz z r k:=by
 induction h with
 | num a b=>exact⟨1,cT _ _,qX (vL _)⟩
 | line a=>exact⟨1,cT _ _,qX (vR _)⟩
 | au a b=>exact⟨1,cT _ _,qX (vQ _)⟩
 | aD a=>exact⟨1,cT _ _,qX (vN _)⟩
 | part _ a b A=>refine a7 A λk K s=>?_;exact⟨k+1,fB K,GX (L7 _) s⟩
 | table _ a b A=>refine a7 A λk K s=>?_;exact⟨k+1,fB K,GX (K4 _) s⟩
 | aP a _ _ Y i2=>refine a7 Y λk K s=>?_;refine a7 i2 λj hj t=>?_;exact⟨_,O0 K (led hj) (led hj),Ce (Q3 a) s t (pF hj)⟩
 | aQ a _ _ i2 Y=>refine a7 Y λk K s=>?_;refine a7 i2 λj hj t=>?_;exact⟨_,O0 K (led hj) (led hj),yQ (Q3 a) s t (pF hj)⟩
 | aN _ _ _ Y i2 u=>refine a7 Y λk K s=>?_;refine a7 i2 λj hj t=>?_;refine a7 u λi q v=>?_;exact⟨_,O0 K (led hj) (led q),Qx (C1 _) s t v (pF hj) (pF q)⟩
 | aM _ _ _ i2 Y u=>refine a7 Y λk K s=>?_;refine a7 i2 λj hj t=>?_;refine a7 u λi q v=>?_;exact⟨_,O0 K (led hj) (led q),ck8 (C1 _) s t v (pF hj) (pF q)⟩
 | bu a b _ _ Y i2=>refine a7 Y λk K s=>?_;refine a7 i2 λj hj t=>?_;exact⟨_,O0 K (led hj) (led hj),Ce (B9 _) s t (pF hj)⟩
 | aZ a b _ _ i2 Y=>refine a7 Y λk K s=>?_;refine a7 i2 λj hj t=>?_;exact⟨_,O0 K (led hj) (led hj),yQ (B9 _) s t (pF hj)⟩
theorem GR.few{z:Lim}{A:Str->Prop}(h:GR z q A d r):Few z r:=λn u K=>by
 exact a7 h.sz λk N s=>bN (s.few n u K) (U3 (s.le n K))
class inductive Cld (M:Hp):V->Prop
 | none:Cld M .none
 | bool (b:Bool):Cld M (.bool b)
 | int (i:Int):Cld M (.int i)
 | str {x:Str} (h:x.length<=10000):Cld M (.str x)
 | ref {a:Addr} {l:List V} (h:M a=some (.L l)):Cld M (.ref a)
 | tup {l:List V} (hz:l.length<=100) (h:∀ x∈l,Cld M x):Cld M (.tup l)
def Ok(M:Hp)(v:V):Prop:=∀ a,v=.ref a->∃ l,M a=some (.L l)
theorem Cld.ok(h:Cld M v):Ok M v:=λa e=>by subst e;cases h with | ref h=>exact⟨_,h⟩
theorem Cld.strz(h:Cld M (.str x)):x.length<=10000:=by cases h;assumption
theorem Cld.ak(h:Cld M (.tup l)):l.length<=100/\∀ x∈l,Cld M x:=by cases h with | tup a b=>exact⟨a,b⟩
theorem zK(h:x∈g8 w args):x∈args:=by
 unfold g8 at h
 split at h
 ·cases h
 ·split at h
  ·exact gO h
  ·split at h
   ·exact nO h
   ·exact h
theorem LC{q:Type}{l:List q}:(slc y c l).length<=l.length:=by
 exact bN (nH _ _) (by rw[jz];exact Nat.sub_le _ _)
theorem ci8{c:Type}{l:List c}{x:c}(h:x∈slc y q l):x∈l:=nO (gO h)
section
variable{g:G}{Q:V->Hp->Prop}
end
section
variable{g:G}{vs:List Str}{d:Nat}{Q:V->Hp->Prop}
end
theorem yS(x:V)(l:List V):slc (some 1) none (x::l)=l:=by rw[Fx (by exact Int.one_nonneg)];rfl
theorem zZ(x:V)(l:List V):slc (some 2) none (x::l)=l.drop 1:=by rw[Fx (by exact lg 2)];rfl
def Let(x:Str):Prop:=∀ c∈x.cps.toList,Txt.contains G7 ⟨#[c]⟩=true
theorem bU2:G7.cps.toList.all (λc=>Txt.contains G7 ⟨#[c]⟩)=true:=by k_extra"#"
theorem Hn{k:Nat}(h:G7.cps[k]?=some c):Let ⟨#[c]⟩:=λd q=>by
 have:d=c:=by simpa using q
 subst this;refine cX.mp bU2 d ?_;rw[<- cM] at h;exact cA h
theorem Let.nil:Let (bM ""):=λc O=>by rw[show(bM "").cps.toList=[] from by k_extra"#"] at O;cases O
theorem Aa(x y:Str):(x++y).cps.toList=x.cps.toList++y.cps.toList:=by
 show(x.cps++y.cps).toList=_;simp
theorem N0(x:Str):x.length=x.cps.toList.length:=by simp[Str.length]
theorem uG(x y:Str):(x++y).length=x.length+y.length:=by
 rw[N0,Aa,cC,<- N0,<- N0]
theorem Let.app(U:Let x)(L:Let y):Let (x++y):=λc O=>by
 rw[Aa] at O;rcases cz.mp O with h | h
 ·exact U c h
 ·exact L c h
theorem Let.sls(U:Let x)(y q:Option Int):Let (sls y q x):=λc O=>U c (ci8 (by simpa[Internal.sls] using O))
theorem zY(y c:Option Int)(x:Str):(sls y c x).length=(slc y c x.cps.toList).length:=by
 rw[N0];simp[sls]
theorem xO(Y:0<=j)(Z:j<=x.length):(sls none (some j) x).length=j.toNat:=by
 rw[zY,Bb Y,gZ,<- N0];exact Gy Z
theorem XH(Y:0<=i)(Z:i<=x.length):(sls (some i) (some j) x).length<=x.length-i.toNat:=by
 rw[zY];unfold slc;rw[gZ,jz,<- N0];refine bN (gW _ _) ?_;show x.length-clipAt x.length i<=_;rw[U5 Y,je (iJ.mpr Z)];exact cO _
theorem Let.word(h:Let x)(Z:1<=x.length)(c:x.length<=8):m9 x=true:=by
 unfold m9;simp only[eV,decide_eq_true_eq,cX]
 exact⟨⟨Z,c⟩,h⟩
theorem Ep(h:m9 x=true):Let x/\1<=x.length/\x.length<=8:=by
 unfold m9 at h;simp only[eV,decide_eq_true_eq,cX] at h
 exact⟨h.2,h.1.1,h.1.2⟩
theorem Mv:m9 "line" = true:=by k_extra"#"
theorem QW:m9 "paper" = true:=by k_extra"#"
theorem ct0:m9 "add" = true:=by k_extra"#"
theorem aY1(h:Txt.contains G7 ⟨#[c]⟩=true):c<128:=by
 unfold Txt.contains at h;rw[StrLaws.found_one] at h;have S:G7.cps.toList.all (λc=>decide (c<128))=true:=by k_extra"#"
 exact f4 (cX.mp S c (f4 h))
theorem Let.strOk(h:Let x):PyData.strOk x=true:=by
 unfold PyData.strOk;rw[<- Array.all_toList,cX];exact λc O=>decide_eq_true (gY (aY1 (h c O)) (by decide))
set_option tactic.hygienic true in
theorem V6(h:M a=some o):upd M a o=M:=by
 funext b;unfold upd;split
 ·rename_i e;rw[e,h]
 ·rfl
set_option tactic.hygienic true in
theorem Jq(h:∀ b o,b≠a->M b=some o->I b=some o):Sub (upd M a x) (upd I a x):=λb o e=>by
 unfold upd at e ⊢
 split
 ·rename_i q;rw[if_pos q] at e;exact e
 ·rename_i q;rw[if_neg q] at e;exact h b o q e
theorem Aq{c:Type}{f:c->V}{l:List c}{k:Nat}(h:(l.map f)[k]?=some x):∃ y∈l,x=f y:=by
 rw[bW] at h;cases q:l[k]? with
 | none=>rw[q] at h;cases h
 | some y=>rw[q] at h;exact⟨y,cA q,(d7 h).symm⟩
section
variable{g:G}{Q:V->Hp->Prop}
theorem Tst.drop(h:Tst g F e J M (λv M'=>∃ L,Sub L M'/\QB v L) (λx M'=>∃ L,Sub L M'/\X x L)):Tst g F e J M QB X:=(λA R s I=>
 oO (h A R s I) (λb y c=>c _ λM' u D ⟨L,k,q⟩=>(λz_ w=>w L (u.sub k) (D.sub k) q)) λe y c=>c _ λx M' r u D ⟨L,k,q⟩=>(λz_ w=>w x L (r.sub k) (u.sub k) (D.sub k) q))
end
theorem pQ{l:List V}:∀ {k:List V},l.Nodup->(∀ y∈l,y∈k)->l.length<=k.length:=by
 induction l with
 | nil=>intro k _ _;exact cP _
 | cons x l ih=>
  intro k c P;refine d5 (gh.mp c) λZ S=>j7 (List.append_of_mem (P x (.head _))) λs t e=>?_
  rw[e] at P ⊢;have:=ih (k:=s++t) S λy L=>by
   rcases cz.mp (P y (.tail _ L)) with q | q
   ·exact cV _ q
   ·k_extra"bU"
    ·exact absurd (q▸L) Z
    ·exact cU _ q
  rw[cC] at this ⊢;exact fB this
def p7(y:V):Prop:=∃ i,y=.int i
theorem p7.flat(h:p7 y):flat y=true:=by refine d4 h λi e=>?_;subst e;rfl
theorem p7.pure(h:p7 y):I0 y=true:=by refine d4 h λi e=>?_;subst e;rfl
theorem p7.dep(h:p7 y):dep y=0:=by refine d4 h λi e=>?_;subst e;rfl
theorem p7.aq:∀ {l:List V},(∀ y∈l,p7 y)->aq l=true
 | [],_=>rfl
 | x::l,h=>by
  show(Internal.flat x&&Internal.aq l)=true;rw[(h x (by simp)).flat,p7.aq λy L=>h y (dX _ L)];rfl
theorem p7.aF:∀ {l:List V},(∀ y∈l,p7 y)->aF l=0
 | [],_=>rfl
 | x::l,h=>by
  have Z:=(h x (by simp)).dep
  have S:=p7.aF (l:=l) λy L=>h y (dX _ L)
  show max (dat x).depth (PyData.depthAll (g7 l))=0;unfold Internal.dep at Z;unfold Internal.aF at S;exact Oj Z S
def G0(F:List V)(x:V):Bool:=(g7 F).any λy=>PyData.eqv y (dat x)
theorem wC{F:List V}(c:∀ y∈F,p7 y)(U:p7 x):G0 F x=true↔x∈F:=by
 unfold G0;rw[Rt,oH,ie];constructor
 ·rintro q;refine a7 q λy L e=>?_
  have:=(xR (c y L).pure U.pure).mp e;subst this;exact L
 ·exact λh=>⟨x,h,(xR U.pure U.pure).mpr rfl⟩
theorem ug{l:List V}(h:∀ y∈l,∃ i,y=.int i):∃ E:List Int,l=E.map .int:=by
 induction l with
 | nil=>exact⟨[],rfl⟩
 | cons y k u=>
  exact d4 (u λz q=>h z (.tail _ q)) λw e=>d4 (h y (.head _)) λi c=>⟨i::w,by rw[e,c];rfl⟩
theorem O8(h:ok z n x=true):∃ w C,x=.tup (.str w::C):=by
 cases n with
 | zero=>exact ff h
 | succ n=>
  cases x with
  | tup l=>
   cases l with
   | nil=>exact ff h
   | cons y l=>
    cases y with
    | str w=>exact⟨w,l,rfl⟩
    | _=>exact ff h
  | _=>exact ff h
theorem t8(h:f8 v a b=true):∃ i,v=.int i/\a<=i/\i<=b:=by
 cases v with
 | int i=>
  exact d5 (dw.mp (show(decide (a<=i)&&decide (i<=b))=true from h)) λZ S=>⟨i,rfl,f4 Z,f4 S⟩
 | _=>exact ff h
theorem uB(h:x5 v=true):∃ x,v=.str x/\m9 x=true:=by
 cases v with
 | str x=>exact⟨x,rfl,h⟩
 | _=>exact ff h
set_option tactic.hygienic true in
theorem Hu{u:Str}(c:u = "line"):∀ {n:Nat} {v:V},ok z n v=true->∀ y∈f9 n v u,∃ i,y=.int i:=by
 intro n;induction n with
 | zero=>intro v h;exact ff h
 | succ n q=>
  intro v h;refine j7 (O8 h) λw args qa=>?_;subst qa
  refine F2 (H7 h) λm hm P T O=>?_
  obtain rfl:n=m:=by exact nQ hm
  intro y L;simp only[H9,cz,jC,cD] at L
  rcases L with L | ⟨_,⟨r,I,rfl⟩,L⟩
  ·split at L
   ·rename_i e
    simp only[bR,dg,or_false] at L
    subst L;have e:w=u:=by simpa using e
    subst e;rw[c,X9] at T;refine a7 (t8 T) λi e _=>?_;exact⟨i,e⟩
   ·cases L
  ·exact q (O r I) y L
theorem z7(h:l.length=1):∃ x,l=[x]:=mU.mp h
theorem rC(h:l.length=2):∃ x y,l=[x,y]:=by
 cases l with
 | nil=>cases h
 | cons x l=>refine d4 (z7 (Nat.succ.inj h)) λy Ja=>?_;subst Ja;exact⟨x,y,rfl⟩
theorem P4(h:l.length=3):∃ x y t,l=[x,y,t]:=by
 cases l with
 | nil=>cases h
 | cons x l=>refine j7 (rC (Nat.succ.inj h)) λy t Ja=>?_;subst Ja;exact⟨x,y,t,rfl⟩
theorem Ht(hs:siz w=some ((args.length:Int)+1))(hf:fit z w args=true)(hx:x∈args):x∈g8 w args∨(∃ i,x=.int i)∨∃ s,x=.str s:=by
 have hm:=X4 hs;k_extra"a0"
 clear hs;k_extra"k"
 ·k_extra"t"
  rw[rB] at hf;k_extra"aw"
  k_extra"a7"
 ·k_extra"t"
  rw[rZ] at hf;refine a7 (uB hf) λi e N=>?_
  simp at hx;subst hx;exact .inr (.inr ⟨i,e⟩)
 ·k_extra"t"
  rw[X9] at hf;k_extra"aw"
  k_extra"a7"
 ·k_extra"t"
  rw[qu] at hf;k_extra"aw"
  k_extra"a7"
 ·rw[rH];exact .inl hx
 ·rw[sZ];exact .inl hx
 ·rw[qG];exact .inl hx
 ·rw[rE];exact .inl hx
 ·k_extra"aA"
  rw[qg] at hf;k_extra"aw"
  have e:=e;subst e;rw[L7];k_extra"aq"
  rcases hx with rfl | rfl
  ·exact .inl (by simp)
  ·k_extra"c2"
 ·k_extra"aA"
  rw[qQ] at hf;k_extra"aw"
  have e:=e;subst e;rw[K4];k_extra"aq"
  rcases hx with rfl | rfl
  ·k_extra"c2"
  ·exact .inl (by simp)
 ·rw[C1];exact .inl hx
 ·obtain⟨a,b,c,rfl⟩:=P4 (l:=args) (by first | exact hn | exact qJ hn | (simp only[dD] at hn;lia))
  rw[X0] at hf;k_extra"aw"
  have e:=e;clear hn;clear hf;subst e;rw[B9];k_extra"aq"
  clear e;rcases hx with rfl | rfl | rfl
  ·k_extra"c2"
  ·exact .inl (by simp)
  ·exact .inl (by simp)
theorem Qt(P:siz w=some ((args.length:Int)+1))(T:fit z w args=true)(U:x∈args)(e:x=.tup l):x∈g8 w args:=by
 rcases Ht P T U with q | ⟨i,q⟩ | ⟨i,q⟩
 ·exact q
 ·rw[e] at q;cases q
 ·rw[e] at q;cases q
theorem cf2{l:List Nat}{x:Nat}(h:x∈l):x<=l.sum:=by
 induction l with
 | nil=>cases h
 | cons y l ih=>
  rw[List.sum_cons];rcases bR.mp h with q | q
  ·rw[q];exact eG ..
  ·exact Nat.le_add_left_of_le (ih q)
section
variable{z:Lim}
theorem Cld.t2(Ma:Cld M a)(Y:Cld M b):Cld M (.tup [a,b]):=.tup (by simp) λx hx=>by
 simp only[bR,dg,or_false] at hx;rcases hx with rfl | rfl<;>assumption
theorem Cld.t3(Ma:Cld M a)(Y:Cld M b)(O:Cld M c):Cld M (.tup [a,b,c]):=.tup (by simp) λx hx=>by
 simp only[bR,dg,or_false] at hx;rcases hx with rfl | rfl | rfl<;>assumption
theorem Cld.t4(Ma:Cld M a)(Y:Cld M b)(O:Cld M c)(q:Cld M d):Cld M (.tup [a,b,c,d]):=.tup (by simp) λx hx=>by
 simp only[bR,dg,or_false] at hx;rcases hx with rfl | rfl | rfl | rfl<;>assumption
theorem GR.cld(S:∀ x,c x->m9 x=true)(h:GR z w c d r):Cld M r:=by
 induction h with
 | num a b=>exact .t2 (.str (by decide)) (.int _)
 | line a=>exact .t2 (.str (by decide)) (.int _)
 | au a b=>exact .t2 (.str (by decide)) (.int _)
 | aD a=>exact .t2 (.str (by decide)) (.str (by have:=(Ep (S _ a)).2.2;exact bN this (cT ..)))
 | part _ a b u=>exact .t3 (.str (by decide)) u (.int _)
 | table _ a b u=>exact .t3 (.str (by decide)) (.int _) u
 | aP a _ _ i1 i2=>
  k_extra"a4"
  exact .t3 (.str (by rcases a with rfl | rfl | rfl | rfl<;>decide)) i1 i2
 | aQ a _ _ i1 i2=>
  k_extra"a4"
  exact .t3 (.str (by rcases a with rfl | rfl | rfl | rfl<;>decide)) i1 i2
 | aN _ _ _ i1 i2 q=>exact .t4 (.str (by decide)) i1 i2 q
 | aM _ _ _ i1 i2 q=>exact .t4 (.str (by decide)) i1 i2 q
 | bu a b _ _ i1 i2=>exact .t4 (.str (by decide)) (.int _) i1 i2
 | aZ a b _ _ i1 i2=>exact .t4 (.str (by decide)) (.int _) i1 i2
end
def w7(st:Addr)(M M':Hp):Prop:=∀ a o,a≠st->M a=some o->M' a=some o
theorem w7.sub(h:w7 st M c)(k:Sub c O):w7 st M O:=λa o Ma e=>k a o (h a o Ma e)
theorem w7.trans(h:w7 st M c)(k:w7 st c O):w7 st M O:=λa o Ma e=>k a o Ma (h a o Ma e)
theorem w7.upd:w7 st M (upd M st o):=λa o Ma e=>by rw[e9 _ _ Ma];exact e
section
variable{g:G}{vs:List Str}{d:Nat}
end
theorem Few.lt(h:Few z r)(u:Str)(K:ok z 8 r=true):(f9 8 r u).length<64:=dq (h 8 u K) (by decide)
section
variable{g:G}{vs:List Str}{d:Nat}{q:Bool}{Q:V->Hp->Prop}
end
noncomputable def toI(v:V):Int:=match v with
 | .int i=>i
 | _=>0
noncomputable def toS(v:V):Str:=match v with
 | .str s=>s
 | _=>bM ""
def V5(n f:Int)(v:V):Int:=match v with
 | .tup l=>if toI (arg l 0)<=n then toI (arg l 1)+(n-toI (arg l 0))*toI (arg l 2) / 100 else f
 | _=>f
def atN(t:V)(n:Int):Int:=match t with
 | .tup l=>l.foldl (V5 n) 0
 | _=>0
structure Yr where
 P:List (Str×Int)
 E:List Int
 T:List Bool
 tc:List V
noncomputable def dS(P:List (Str×Int)):List (Str×V):=P.map λp=>(p.1,.int p.2)
def C7(P:List (Str×Int))(x:Str):Int:=toI ((i9 (dS P) x).getD (.int 0))
def lf(y:Yr)(f:Int->Int)(w:Str)(a:V):Int:=
 if w == "number" then toI a else if w == "paper" then C7 y.P (toS a) else if w == "line" then f (toI a) else y.E.getD (toI a).toNat 0
noncomputable def pP(w:Str)(a b:Int):Int:=if w == "add" then a+b else if w == "take" then a-b else if w == "least" then min a b else max a b
noncomputable def wv(y:Yr)(f:Int->Int):Nat->V->Int
 | 0,_=>0
 | n+1,.tup (.str w::args)=>
  if rP w then lf y f w (arg args 0)
  else if w == "part" then wv y f n (arg args 0)*toI (arg args 1) / 100
  else if w == "table" then atN (y.tc.getD (toI (arg args 0)).toNat .none) (wv y f n (arg args 1))
  else if w == "where" then(if 0<wv y f n (arg args 0) then wv y f n (arg args 1) else wv y f n (arg args 2))
  else if w == "choose" then(if y.T.getD (toI (arg args 0)).toNat false then wv y f n (arg args 2) else wv y f n (arg args 1))
  else pP w (wv y f n (arg args 0)) (wv y f n (arg args 1))
 | _+1,_=>0
section
variable{y:Yr}{f:Int->Int}{n:Nat}
theorem S7{i:Int}:wv y f (n+1) (.tup [.str "number",.int i])=i:=(if_pos (by k_extra"#")).trans (if_pos (by k_extra"#"))
theorem S5:wv y f (n+1) (.tup [.str "paper",.str x])=C7 y.P x:=(if_pos (by k_extra"#")).trans ((if_neg (by k_extra"#")).trans (if_pos (by k_extra"#")))
theorem P8{i:Int}:wv y f (n+1) (.tup [.str "line",.int i])=f i:=(if_pos (by k_extra"#")).trans ((if_neg (by k_extra"#")).trans ((if_neg (by k_extra"#")).trans (if_pos (by k_extra"#"))))
theorem R9{i:Int}:wv y f (n+1) (.tup [.str "earlier",.int i])=y.E.getD i.toNat 0:=(if_pos (by k_extra"#")).trans ((if_neg (by k_extra"#")).trans ((if_neg (by k_extra"#")).trans (if_neg (by k_extra"#"))))
theorem T2{r:V}{i:Int}:wv y f (n+1) (.tup [.str "part",r,.int i])=wv y f n r*i / 100:=(if_neg (by k_extra"#")).trans (if_pos (by k_extra"#"))
theorem P5{r:V}{i:Int}:wv y f (n+1) (.tup [.str "table",.int i,r])=atN (y.tc.getD i.toNat .none) (wv y f n r):=(if_neg (by k_extra"#")).trans ((if_neg (by k_extra"#")).trans (if_pos (by k_extra"#")))
theorem N8{r t u:V}:wv y f (n+1) (.tup [.str "where",r,t,u])=if 0<wv y f n r then wv y f n t else wv y f n u:=(if_neg (by k_extra"#")).trans ((if_neg (by k_extra"#")).trans ((if_neg (by k_extra"#")).trans (if_pos (by k_extra"#"))))
theorem N9{r t:V}{i:Int}:wv y f (n+1) (.tup [.str "choose",.int i,r,t])=if y.T.getD i.toNat false then wv y f n t else wv y f n r:=(if_neg (by k_extra"#")).trans ((if_neg (by k_extra"#")).trans ((if_neg (by k_extra"#")).trans ((if_neg (by k_extra"#")).trans (if_pos (by k_extra"#")))))
inductive W2:Str->Prop
 | add:W2 "add"
 | take:W2 "take"
 | least:W2 "least"
 | most:W2 "most"
theorem R8{w:Str}{r t:V}(h:W2 w):wv y f (n+1) (.tup [.str w,r,t])=pP w (wv y f n r) (wv y f n t):=by
 cases h<;>exact(if_neg (by k_extra"#")).trans ((if_neg (by k_extra"#")).trans ((if_neg (by k_extra"#")).trans ((if_neg (by k_extra"#")).trans (if_neg (by k_extra"#")))))
end
inductive Nd(z:Lim)(n:Nat):V->Prop
 | num (i:Int):Nd z n (.tup [.str "number",.int i])
 | aD (x:Str):Nd z n (.tup [.str "paper",.str x])
 | line (i:Int) (h0:0<=i) (h1:i<z.L):Nd z n (.tup [.str "line",.int i])
 | au (i:Int) (h0:0<=i) (h1:i<z.L):Nd z n (.tup [.str "earlier",.int i])
 | part (r:V) (i:Int) (hr:ok z n r=true) (h0:0<=i) (h1:i<=100):Nd z n (.tup [.str "part",r,.int i])
 | table (i:Int) (r:V) (h0:0<=i) (h1:i<z.T) (hr:ok z n r=true):Nd z n (.tup [.str "table",.int i,r])
 | two (w:Str) (r t:V) (h:W2 w) (hr:ok z n r=true) (ht:ok z n t=true):Nd z n (.tup [.str w,r,t])
 | bA (r t u:V) (hr:ok z n r=true) (ht:ok z n t=true) (hu:ok z n u=true):Nd z n (.tup [.str "where",r,t,u])
 | bB (i:Int) (r t:V) (h0:0<=i) (h1:i<z.C) (hr:ok z n r=true) (ht:ok z n t=true):Nd z n (.tup [.str "choose",.int i,r,t])
section
variable{z:Lim}{n:Nat}
theorem T7:arg (x::l) 0=x:=rfl
theorem RM(hn:(args.length:Int)+1=2)(T:fit z "number" args=true):Nd z n (.tup (.str "number" :: args)):=by
 k_extra"aM";rw[rB,T7] at T;refine a7 (t8 T) λi Ja N=>?_;clear hn;clear T;subst Ja
 exact .num i
theorem Ur(hn:(args.length:Int)+1=2)(T:fit z "paper" args=true):Nd z n (.tup (.str "paper" :: args)):=by
 k_extra"aM";rw[rZ,T7] at T;refine a7 (uB T) λi Ja N=>?_;clear hn;clear T;subst Ja
 exact .aD i
theorem XR(hn:(args.length:Int)+1=2)(hf:fit z "line" args=true):Nd z n (.tup (.str "line" :: args)):=by
 k_extra"aM";rw[X9,T7] at hf;k_extra"am"
 exact .line i h0 (gR h1)
theorem Mx(hn:(args.length:Int)+1=2)(hf:fit z "earlier" args=true):Nd z n (.tup (.str "earlier" :: args)):=by
 k_extra"aM";rw[qu,T7] at hf;refine f5 (t8 hf) λi qa h0 h1=>?_;subst qa
 exact .au i h0 (gR h1)
theorem qU{w:Str}(S:W2 w)(c:∀ a,g8 w a=a)(hn:(args.length:Int)+1=3)(O:∀ x∈g8 w args,ok z n x=true):Nd z n (.tup (.str w::args)):=by
 k_extra"bs";rw[c] at O;exact .two w x y S (O _ (.head _)) (O _ (.tail _ (.head _)))
theorem Je(hn:(args.length:Int)+1=3)(T:fit z "part" args=true)(O:∀ x∈g8 "part" args,ok z n x=true):Nd z n (.tup (.str "part" :: args)):=by
 k_extra"bs";rw[qg] at T;refine f5 (t8 T) λi e Y Z=>?_
 clear hn;clear T;obtain rfl:y=.int i:=e;rw[L7] at O;exact .part x i (O x (.head _)) Y Z
theorem JS(hn:(args.length:Int)+1=3)(hf:fit z "table" args=true)(O:∀ x∈g8 "table" args,ok z n x=true):Nd z n (.tup (.str "table" :: args)):=by
 k_extra"bs";rw[qQ,T7] at hf;k_extra"am"
 rw[K4] at O;exact .table i y h0 (gR h1) (O y (.head _))
theorem bn0(hn:(args.length:Int)+1=4)(O:∀ x∈g8 "where" args,ok z n x=true):Nd z n (.tup (.str "where" :: args)):=by
 obtain⟨x,y,t,rfl⟩:=P4 (l:=args) (qJ hn);rw[C1] at O;exact .bA x y t (O _ (.head _)) (O _ (.tail _ (.head _))) (O _ (.tail _ (.tail _ (.head _))))
theorem VK(hn:(args.length:Int)+1=4)(hf:fit z "choose" args=true)(O:∀ x∈g8 "choose" args,ok z n x=true):Nd z n (.tup (.str "choose" :: args)):=by
 obtain⟨x,y,t,rfl⟩:=P4 (l:=args) (qJ hn);rw[X0,T7] at hf;k_extra"am"
 rw[B9] at O;exact .bB i y t h0 (gR h1) (O _ (.head _)) (O _ (.tail _ (.head _)))
end
theorem pR{z:Lim}{n:Nat}(h:ok z (n+1) v=true):Nd z n v:=by
 refine j7 (O8 h) λw args qa=>?_;subst qa
 refine F2 (H7 h) λm hm hs T O=>?_
 obtain rfl:n=m:=Nat.succ.inj hm;have hm:=X4 hs;clear h hs;k_extra"a0"
 k_extra"k"
 ·exact RM hn T
 ·exact Ur hn T
 ·exact XR hn T
 ·exact Mx hn T
 ·exact qU .add rH hn O
 ·exact qU .take sZ hn O
 ·exact qU .least qG hn O
 ·exact qU .most rE hn O
 ·exact Je hn T O
 ·exact JS hn T O
 ·exact bn0 hn O
 ·exact VK hn T O
theorem E9{n:Nat}{w:Str}{r:V}{u:Str}(I:r∈g8 w args):∀ y∈f9 n r u,y∈f9 (n+1) (.tup (.str w::args)) u:=λy L=>by
 rw[H9];exact cz.mpr (.inr (jC.mpr ⟨_,cD.mpr ⟨r,I,rfl⟩,L⟩))
theorem YS{n:Nat}{i:Int}:V.int i∈f9 (n+1) (.tup [.str "line",.int i]) "line":=by
 rw[H9,if_pos (by k_extra"#")]
 exact cz.mpr (.inl (.head _))
def Nms(p:Int->Prop)(n:Nat)(v:V):Prop:=∀ i,V.int i∈f9 n v "line"->p i
section
variable{p:Int->Prop}{n:Nat}{r t u:V}{i:Int}{w:Str}
theorem Nms.line(h:Nms p (n+1) (.tup [.str "line",.int i])):p i:=h i YS
theorem Nms.part(h:Nms p (n+1) (.tup [.str "part",r,.int i])):Nms p n r:=λj c=>h j (E9 (by rw[L7];simp) _ c)
theorem Nms.table(h:Nms p (n+1) (.tup [.str "table",.int i,r])):Nms p n r:=λj c=>h j (E9 (by rw[K4];simp) _ c)
theorem W2.ins(h:W2 w)(a:List V):g8 w a=a:=by
 cases h
 ·exact rH a
 ·exact sZ a
 ·exact qG a
 ·exact rE a
theorem Nms.two1(S:W2 w)(h:Nms p (n+1) (.tup [.str w,r,t])):Nms p n r:=λj c=>h j (E9 (by rw[S.ins];simp) _ c)
theorem Nms.two2(S:W2 w)(h:Nms p (n+1) (.tup [.str w,r,t])):Nms p n t:=λj c=>h j (E9 (by rw[S.ins];simp) _ c)
theorem Nms.wher1(h:Nms p (n+1) (.tup [.str "where",r,t,u])):Nms p n r:=λj c=>h j (E9 (by rw[C1];simp) _ c)
theorem Nms.wher2(h:Nms p (n+1) (.tup [.str "where",r,t,u])):Nms p n t:=λj c=>h j (E9 (by rw[C1];simp) _ c)
theorem Nms.wher3(h:Nms p (n+1) (.tup [.str "where",r,t,u])):Nms p n u:=λj c=>h j (E9 (by rw[C1];simp) _ c)
theorem Nms.choo1(h:Nms p (n+1) (.tup [.str "choose",.int i,r,t])):Nms p n r:=λj c=>h j (E9 (by rw[B9];simp) _ c)
theorem Nms.choo2(h:Nms p (n+1) (.tup [.str "choose",.int i,r,t])):Nms p n t:=λj c=>h j (E9 (by rw[B9];simp) _ c)
end
theorem rQ{z:Lim}{y:Yr}{f X:Int->Int}:∀ {n:Nat} {v:V},ok z n v=true->Nms (λi=>f i=X i) n v->wv y f n v=wv y X n v:=by
 intro n;induction n with
 | zero=>intro v h;exact ff h
 | succ n c=>
  intro v hk h;cases pR hk with
  | num i=>rw[S7,S7]
  | aD x=>rw[S5,S5]
  | line i=>rw[P8,P8];exact h.line
  | au i=>rw[R9,R9]
  | part r i I=>rw[T2,T2,c I h.part]
  | table i r _ _ I=>rw[P5,P5,c I h.table]
  | two w r t S I R=>rw[R8 S,R8 S,c I (h.two1 S),c R (h.two2 S)]
  | bA r t u I R q=>rw[N8,N8,c I h.wher1,c R h.wher2,c q h.wher3]
  | bB i r t _ _ I R=>rw[N9,N9,c I h.choo1,c R h.choo2]
noncomputable def xf(rh:List V)(y:Yr):Nat->Int->Int
 | 0,_=>0
 | k+1,i=>wv y (xf rh y k) 8 (rh.getD i.toNat .none)
def sol(rh:List V)(y:Yr)(rk:Int->Nat)(i:Int):Int:=xf rh y (rk i+1) i
structure Lnk(z:Lim)(rh:List V)(rk:Int->Nat):Prop where
 ok:∀ (i:Nat),i<rh.length->Internal.ok z 8 (rh.getD i .none)=true
 dn:∀ (i:Nat),i<rh.length->Nms (λj=>(0<=j/\j<rh.length)/\rk j<rk i) 8 (rh.getD i .none)
theorem Uk{z:Lim}{y:Yr}(h:Lnk z rh rk):∀ (k:Nat) (i:Int),0<=i->i<rh.length->rk i<k->xf rh y k i=sol rh y rk i:=by
 intro k;induction k using jT with
 | ind k c=>
  intro i h0 Z K;cases k with
  | zero=>exact absurd K (gA _)
  | succ m=>
   have hi:i.toNat<rh.length:=W6 h0 Z;have e:=dN h0;refine rQ (h.ok _ hi) λj hj=>?_
   obtain⟨⟨j0,j1⟩,j2⟩:=h.dn _ hi j hj;rw[e] at j2;rw[c m (gF _) j j0 j1 (cR j2 (eH K)),c (rk i) (K) j j0 j1 j2]
theorem rN{z:Lim}{y:Yr}(h:Lnk z rh rk){i:Nat}(hi:i<rh.length):wv y (sol rh y rk) 8 (rh.getD i .none)=sol rh y rk i:=by
 refine rQ (h.ok _ hi) λj hj=>?_
 obtain⟨⟨j0,j1⟩,j2⟩:=h.dn _ hi j hj;exact(Uk h _ j j0 j1 j2).symm
theorem Dk:(i9 (dS P) x).getD (.int 0)=.int (C7 P x):=by
 unfold C7;cases e:i9 (dS P) x with
 | none=>rfl
 | some v=>
  unfold i9 at e;refine a7 (cL.mp e) λp Ma Ja=>?_;clear e;subst Ja
  obtain⟨q,-,rfl⟩:=cD.mp (gU Ma);rfl
noncomputable def vbm:List Value:=[.type "ValueError",.type "Exception",.type "BaseException",.type "object"]
noncomputable def x8:List Str:=["__getattribute__","__getattr__","__class__"]
class inductive OwnTailC (h:Heap) (bmB:List Value):List Value->Prop
 | base:OwnTailC h bmB bmB
 | own {A:Addr} {c0:Value} {dd:Option Addr} {cd:ClassData} {sl:Array (Option Value)} {mA:Str->Option Value} {tl:List Value} :
   h.get? A=some {cls:=c0,dict:=dd,data:=.cls cd,slots:=sl}->h.Ns cd.ns mA->(∀ n∈x8,mA n=none)->OwnTailC h bmB tl->OwnTailC h bmB (.ref A::tl)
def XOb(g:G)(C:Addr)(bm:List Value):Prop:=
 ∀ w:Prop,(∀ (N:Addr) (nm q:Str) (L:List Value) (c:Bool) (sn:List Str) (sub:List Value) (x:Bool) (E:Option Bool) (dd:Option Addr) (y A D H P:Option Value) (u:Str->Option Value)
  (I:g.h₀.get? C=some (excClassObj nm q C N L bm c sn sub x E dd y A D H P "ValueError.__new__")) (Ja:g.h₀.Ns N u) (K:u "__init__" = none) (O:∀ n∈x8,u n=none) (T:OwnTail g.h₀ vbm bm) (U:OwnTailC g.h₀ vbm bm),w)->w
structure XC(g:G)(x:Str)(C:Addr)(bm:List Value):Prop where
 bound:g.mg x=some (.ref C)
 obj:XOb g C bm
section
variable{g:G}{QS:j5}{XS:n9}
theorem Wo{args:List Expr}(O:XC g x C bm)(K:F.sc.names.lookup x=some .globalImplicit)(Ja:F.q=true)(X:(x==("__debug__" : Str))=false)
  (h:Evs g F args J M (λvs c=>vs.length<=sizeLine/\XS x J c) (λx c=>XS x J c)):Ex g F (.Raise (some (.Call (.Name x P) args [] w)) none pos) J M QS XS:=(λA R s I=>by
 refine O.obj _ ?_;k_extra"bC";refine d5 (h A R s w I) λS Ma=>?_
 have Q:=PySem.F.excBase_ValueError;refine wpAny_Raise_call_subT (C:=C) (nm:=nm) (q:=q) (N:=N) (bs:=bs) (bm:=bm) (hdct:=hdct) (sn:=sn) (sub:=sub) (ab:=ab) (col:=col) (dd:=dd) (k0:=k0) (k1:=k1) (k2:=k2) (k3:=k3) (k5:=k5)
  Q (mN:=mN) (T.hasType Q.hasBase) (I.quiet Ja) Ma hni
  (I.nG K X O.bound ⟨rfl,?_⟩)
 refine s8 Ma (Q9 S (λvs u Vs c rs Z E Ja=>⟨rfl,by rw[rs.length];exact Ja.1,Z.sim.stays _ _ hC,hN.keeps Z.sim.stays,T.keeps Z.sim.stays,λy e H=>?_⟩) λj j p=>p.toS)
 refine f5 H.there λt Y j j=>?_
 have D:Step (inF A) f7 c c u {u with heap:=y}:=Step.grow (tk:=u.toks) H.keeps
 refine(λj L=>L x J c (.made e _ (λj L=>L C _ _ rfl (E.nix H.new) ?_ ?_ Y rfl O.bound rfl rfl) rfl) (Z.keep D (Z.sim.grow H.keeps)) ((E.trans D).mono λj h=>h.elim) Ja.2)
 ·cases q:g.h₀.get? e with
  | none=>rfl
  | some o=>have:=Z.sim.stays _ _ q;rw[H.new] at this;exact i6 this
 ·cases q:c e with
  | none=>rfl
  | some o=>refine d4 ((Z.sim.objs _ _ q).1.has) λob U=>?_;rw[H.new] at U;exact i6 U)
end
section
variable{Ma:Model}
theorem cq5{q':Str}{sn:List Str}{sub:List Value}{U X:Option Value}{K:String}
  (hC:s.heap.get? C=some (excClassObj nm q C N bs bm hdct sn sub ab col dd k0 k1 k2 k3 k5 K))
  (u:s.heap.get? L=some (excClassObj nm' q' L N' R x Ja sn' I H y Z T U c X Y O)) (he:s.heap.get? e=some oe) (P:oe.cls=.ref C) (D:x.contains (.type "BaseException")=true)
  (hb:(Value.ref C::bm).contains (.ref L)=b) (hq:Q b s):wpAny Ma A (excMatches (.ref e) (.ref L)) Q E s:=by
 obtain⟨h,g,d,t,os⟩:=s;have S:(Value.ref L::x).contains (.type "BaseException")=true:=by rw[iy,D,Bool.or_true]
 have f:=tc_notTuple;unfold excMatches
 repeat (first | (with_reducible refine wpAny_loadPart_at he ?_;rw[P]) | with_reducible refine wpAny_loadPart_at u ?_ | (with_reducible refine wpAny_isSubtype_exc u ?_;rw[S]) | (with_reducible refine wpAny_isSubtype_exc hC ?_;rw[hb]) | wp_step)
 cases b<;>first | exact hq | (wp_walk;exact hq)
end
theorem VB{g:G}{D:List Value}(hx:XC g x C bm)(hy:XC g y c D)(st:∀ b o,g.h₀.get? b=some o->s.heap.get? b=some o)(X:s.heap.get? a=some Ja)(O:Ja.cls=.ref C)
  (Y:(Value.ref C::bm).contains (.ref c)=b) (h:Q b s):wpAny (model g.prog g.w) A (excMatches (.ref a) (.ref c)) Q E s:=by
 refine hx.obj _ ?_;k_extra"bC";refine hy.obj _ ?_;rintro N' nm' q' S K sn' I H L Z k0' k1' k2' k3' k5' mN' u U P-R -;exact cq5 (st _ _ hC) (st _ _ u) X O (R.hasType PySem.F.excBase_ValueError.hasBase) Y h
section
variable{g:G}{QS:j5}{XS:n9}
noncomputable def Blk.loud(F:Blk):Blk:={F with q:=false}
theorem Inv.loud(e:Option Value)(I:Inv g F A env J M s):Inv g F.loud (A.mark e) env J M s:=by
 obtain⟨Z,S,y,X,C,U,H,D,L,u,x,c⟩:=I;refine⟨Z,S,y,X,C,U,λq=>(nomatch q),D,L,u,x,c _ ?_⟩
 k_extra"cs"
theorem Inv.calm(I:Inv g F A env J M s)(Ja:Inv g F.loud (A.mark e) env S M' s'):Inv g F A env S M' s':=by
 obtain⟨Z,x,y,X,C,U,-,D,L,q,u,c⟩:=Ja;refine⟨Z,x,y,X,C,U,I.quiet,D,L,q,u,c _ ?_⟩;k_extra"cs"
def Hnd(g:G)(F:Blk)(P:List ExceptHandler)(x:Str)(J:List (Option V))(M:Hp)(Q:j5)(X:n9):Prop:=
 ∀ A env s c u e,Inv g F A env J M s->Step (inF A) (ownOf env) c M u s->D1 g e x u.heap M s.heap .none->wpAny (model g.prog g.w) A (handleBy e env P) (pJ g F A env c u Q) (x6 g F A env c u X) s
theorem cn4(h:XS x J M):Hnd g F [] x J M QS XS:=(λA env s Ja u e I D q=>by
 refine k9 I.frs.frame λv l L Z S P=>wpAny_handleBy_nil ?_
 unfold PySem.passOn;have H:=q;refine q _ ?_;clear q;k_extra"cE";refine oM (wpAny_field ho hd e1 ?_);k_extra"bM"
 refine oM (N4 (fo:=env.frame) D I.sim H λK W y=>?_)
 have Y:=I.aX W;refine W _ ?_;clear W;rintro c O - -;rw[P] at y;exact wpAny_throw (λz_ Q=>Q x J M (.on _ y (.inr ⟨l,v,L,Z,S,rfl⟩)) Y c h))
theorem vV{x:Str}{c h:Heap}{e I:Value}{P:Prop}(f:D1 g e x c M h I)(k:∀ a,e=.ref a->P):P:=f _ λa N z N N N N N N N N N N N=>z _ λN N N q N N N N N N N N=>k a q
theorem qW{x:Str}{a C:Addr}{q h:Heap}{I:Value}{P:Prop}(U:XC g x C bm)(f:D1 g (.ref a) x q M h I)(k:∀ Ja vs,q.get? a=none->g.h₀.get? a=none->M a=none->h.get? a=some Ja->Ja.cls=.ref C->Ja.data=.fields vs->P):P:=
 f _ λc vs z N N N N N N N N N N N=>z _ λD Ja N K n b y u O R H N=>by
  rw[<- Value.ref.inj K] at n b y u;exact k Ja vs n b y u (O.trans (d7 (R.symm.trans U.bound))) H
theorem uf{x y:Str}{C D:Addr}{u:List Value}{R:Pos}{B:Around}{a:Addr}{Ja:Obj}{b:Bool}{P:Bool->Shared->Prop}(U:XC g x C bm)(L:XC g y D u)(K:F.sc.names.lookup y=some .globalImplicit)(H:(y==("__debug__" : Str))=false)
  (Y:(Value.ref C::bm).contains (.ref D)=b) (I:Inv g F A env J M s) (Q:s.heap.get? a=some Ja) (O:Ja.cls=.ref C) (h:P b s):wpAny (model g.prog g.w) B (eval (.Name y R) env) (λc q=>wpAny (model g.prog g.w) B (excMatches (.ref a) c) P E q) E s:=
 Calls.Name_function_global I.fn (by show env.scope.names.lookup y=_;rw[I.scope];exact K) (lY (by rw[I.glob];exact g.ns.keeps I.sim.stays) L.bound (VB U L I.sim.stays Q O Y h)) H
theorem Vj(U:XC g x C bm)(L:XC g y R Q)(K:F.sc.names.lookup y=some .globalImplicit)(S:(y==("__debug__" : Str))=false)
  (Y:(Value.ref C::bm).contains (.ref R)=false) (h:Hnd g F rest x J M QS XS):Hnd g F (.ExceptHandler (some (.Name y P)) c H pos::rest) x J M QS XS:=(λA env s Ja u e I D f=>by
 refine vV f λa he=>?_
 rw[he] at f ⊢;exact qW U f λoe vs n b Z X O T=>wpAny_handleBy_cons (codeAny_handlers_test (uf U L K S Y I X O (h A env s Ja u _ I D f))) λq=>by cases q)
theorem bj0(U:XC g x C bm)(hy:XC g y P L)(hk:F.sc.names.lookup y=some .globalImplicit)(T:(y==("__debug__" : Str))=false)
  (Y:(Value.ref C::bm).contains (.ref P)=true) (h:Exs g F.loud (Z::H) J M QS λN N N=>False):Hnd g F (.ExceptHandler (some (.Name y np)) none (Z::H) pos::rest) x J M QS XS:=(λA env s zq sx e I st f=>by
 refine vV f λa he=>?_
 rw[he] at f ⊢;refine qW U f λoe vs n b hs ho O hd'=>wpAny_handleBy_cons (codeAny_handlers_test (uf U hy hk T Y I ho O (codeAny_handlers_suite (N4 (A:=A.mark (some (.ref a))) (fo:=none) st I.sim f λR W Q=>?_)))) λq=>by cases q
 exact oO (h _ env _ ((I.aX (A:=A) (own:=ownOf env) (zq:=zq) (sx:=sx) W).loud _)) (λf D p=>p _ λX S u r K Ja q=>W _ λc N N N=>λN k_=>k_ X S u r (I.calm K) (Step.trans c Ja) q) λN N p=>p.no)
theorem Ip{i:Nat}{Z:Unit->Shared->Prop}(I:Inv g F A env J M s)(T:F.vars[i]?=some n)(hl:F.sc.names.lookup n=some .local)
  (h:∀ s',Inv g F A env (bY F.vars.length none) M s'->Step (inF A) (ownOf env) M M s s'->Z () s'):wpAny (model g.prog g.w) A (do bindName env n .none;unbindBehindTheSuite env n pos) Z E s:=by
 refine a7 I.loc.ns λm H K=>wpAny_nameGoes (by unfold Env.kindOf;rw[I.scope];exact hl) H (by rw[I.fn];rfl) λR U q S=>I.putN ((dG ..).trans I.loc.len.symm) H q S (λj y u C L=>?_) (h _)
 rw[List.eq_of_mem_replicate (cA L)];rcases K j y _ C (bO (by rw[I.loc.len];exact(cj.mp C).1)) with ⟨x,Ja⟩ | ⟨x,c,Q,O,D,Ja⟩
 ·exact .inl ⟨x,λW P=>i6 P⟩
 ·exact .inr ⟨x,c,Q,O,D.sameBut S (I.loc.other _ _ O),λW P=>i6 P⟩
theorem FloRep.mono{h:Heap}{f:Flow}{X:Flo}(r:FloRep h f X)(t:l6 h h'):FloRep h' f X:=by
 cases r with
 | next=>exact .next
 | brk=>exact .brk
 | cont=>exact .cont
 | ret r=>exact .ret (r.mono t)
theorem Inv.exn{x:Str}{a C:Addr}{Ja:Obj}{vs:Array Value}(I:Inv g F A env J M s)(hx:g.mg x=some (.ref C))(Y:g.h₀.get? a=none)(S:s.heap.get? a=some Ja)(O:Ja.cls=.ref C)(R:Ja.data=.fields vs):Inv g F A env J (upd M a (.ex x)) s:=by
 have c:∀ {o:Obj},s.heap.get? a=some o->o.data=.fields vs:=λe=>by rw[<- d7 (S.symm.trans e)];exact R
 have nd:∀ b,ownOf env b∨inF A b->b≠a:=λb Y q=>by
  rw[q] at Y;rcases Y with (e | ⟨z,hz⟩) | Y
  ·exact a7 I.loc.ns λm hn N=>k9 hn λo X ep y u N=>gm ((c (e▸y)).symm.trans u)
  ·exact i5 (I.loc.live z _ hz) λv o y u=>gm ((c y).symm.trans u)
  ·exact g6 Y λl e P Z T=>I.frs _ λH l' K N all=>all e (d7 (P.symm.trans K)▸Z) _ λL N Q N N o y d=>j7 d λX ep u=>gm ((c (d7 (Q.symm.trans T)▸y)).symm.trans u)
 exact⟨I.scope,I.fn,I.glob,I.bk,I.room,I.units,I.quiet,I.sim.put ⟨C,Ja,vs,hx,S,O,R⟩ Y,⟨I.loc.len,I.loc.ns,λb Y=>(e9 _ _ (nd b (.inl Y))).trans (I.loc.free b Y),I.loc.live,I.loc.apart,I.loc.other⟩,I.base,I.nd,I.frs _ λH l K T all N k=>k H l K T λv U=>all v U _ λL z1 D z3 z4 o z5 z6 N k=>k L z1 D z3 ((e9 _ _ (nd L (.inr ⟨_,v,K,U,D⟩))).trans z4) o z5 z6⟩
section
variable{w:World}
theorem VV{e:Value}{t:Expr}{n:Str}{Z:Stmt}{q:List Stmt}{rest:List ExceptHandler}{Q:Flow->Shared->Prop}(y:e≠byPass)
  (h:wpAny (model prog w) (A.mark (some e)) (eval t env) (λc sw=>wpAny (model prog w) (A.mark (some e)) (excMatches e c) (λb T=>b=true/\T=s) (λN N=>False) sw) (λN N=>False) s)
  (k:wpAny (model prog w) (A.mark (some e)) (setFlight e none) (λN sw=>wpAny (model prog w) (A.mark (some e)) (storeName env n e) (λN T=>wpAny (model prog w) (A.mark (some e)) (execs (Z::q) env) (λf P=>wpAny (model prog w) A (do bindName env n .none;unbindBehindTheSuite env n pos) (λN D=>Q f D) E P) (λN N=>False) T) (λN N=>False) sw) (λN N=>False) s) :
  wpAny (model prog w) A (handleBy e env (.ExceptHandler (some t) (some n) (Z::q) pos::rest)) Q E s:=by
 refine wpAny_handleBy_cons (codeAny_handlers_test (oO h (λc sw u=>oO u (λb T p=>?_) λN N x=>x.elim) λN N x=>x.elim)) y
 rw[p.1,p.2];exact codeAny_handlers_suite_as (oO k (λN N h=>oO h (λN N h=>oO h (λN N h=>h) λN N x=>x.elim) λN N x=>x.elim) λN N x=>x.elim)
end
theorem br2{n:Str}{i:Nat}{w:Option V}{Z:Stmt}{c:List Stmt}{rest:List ExceptHandler}(hx:XC g x C bm)(hy:XC g y C' bm')(hk:F.sc.names.lookup y=some .globalImplicit)(hd:(y==("__debug__" : Str))=false)
  (hb:(Value.ref C::bm).contains (.ref C')=true) (hi:F.vars[i]?=some n) (hw:J[i]?=some w) (hl:F.sc.names.lookup n=some .local)
  (h:∀ a,M a=none->Exs g F.loud (Z::c) (J.set i (some (.ref a))) (upd M a (.ex x)) (λf N M'=>QS f (bY F.vars.length none) M') λN N N=>False):Hnd g F (.ExceptHandler (some (.Name y np)) (some n) (Z::c) pos::rest) x J M QS XS:=(λA env s zq sx e I st f=>by
 refine vV f λa he=>?_
 rw[he] at f ⊢;refine qW hx f λoe vs n b hs ho hc hd'=>VV (λq=>by cases q) (uf hx hy hk hd hb I ho hc ⟨rfl,rfl⟩) (N4 (A:=A.mark (some (.ref a))) (fo:=none) st I.sim f λX W U=>?_)
 have Y:=I.aX (A:=A) (own:=ownOf env) (zq:=zq) (sx:=sx) W;refine W _ λy3 N N N=>qW hx U λoe2 vs₂ n2 S Ja H u D=>?_
 have K:Step (inF A) (ownOf env) zq (upd M a (.ex x)) sx {s with heap:=X}:=Step.put y3 n2
 exact I5 ((Y.exn hx.bound S H u D).loud (some (.ref a))) hi hw (.ref a) λs₅ P L=>oO (h a Ja _ env s₅ P) (λf s₆ p=>p _ λf' J' M' r Q O q=>Ip (I.calm Q) hi hl λs₇ R T=>λN k_=>k_ f' _ M' (r.mono T.ak) R (K.trans (Step.trans L (Step.trans O T))) q) λN N p=>p.no)
theorem Td(h:Exs g F y J M QS (λx Ja O=>Hnd g F (C::P) x Ja O QS XS)):Ex g F (.Try y (C::P) [] [] pos) J M QS XS:=(λA env s I=>by
 refine wpAny_Try_except (oO (h A env s I) (λf H p=>?_) λe H p=>?_)
 ·cases f with
  | next=>
   refine p _ ?_;clear p;rintro f' S u r Q D q;cases r;exact wpAny_execs_nil (λz_ k_=>k_ _ S u .next Q D q)
  | _=>exact p
 ·k_extra"3";rintro x S u f Q D q
  refine k9 Q.frs.frame λv l L h1 h2 h3=>wK D Q.frs Q.sim f h3 λX W R=>?_
  have U:=Q.aX W;refine W _ ?_;clear W;rintro Z K - -;refine N4 (s:={H with heap:=X}) (fo:=none) Z K R λh₃ W T=>?_
  have Y:=U.aX W;refine W _ ?_;clear W;rintro c m3 - -;exact q A env _ _ _ _ Y c T)
end
theorem OwnTailC.keeps{h:Heap}(T:OwnTailC h bmB c)(K:∀ b o,h.get? b=some o->h'.get? b=some o):OwnTailC h' bmB c:=by
 induction T with
 | base=>exact .base
 | own R u x _ y=>exact .own (K _ _ R) (u.keeps K) x y
theorem OwnTailC.hasType{h:Heap}(T:OwnTailC h bmB c)(Y:bmB.contains v=true):c.contains v=true:=by
 induction T with
 | base=>exact Y
 | own _ _ _ _ u=>rw[iy,u,Bool.or_true]
section
variable{w:World}{Ma:Model}{h:Heap}{g:Array GenState}{d:Drawn}{t:Nat}{a:Addr}{od:Option Addr}{odt:Data}
 {nm q:Str} {C N:Addr} {bs bm bmB:List Value} {hdct:Bool} {sn:List Str} {sub:List Value} {ab:Bool} {col:Option Bool} {dd:Option Addr} {k0 k1 k2 k3 k5:Option Value} {newId:String} {mN:Str->Option Value}
theorem vZ(I:n∈x8)
  (F:h.get? C=some (excClassObj nm q C N bs bm hdct sn sub ab col dd k0 k1 k2 k3 k5 newId)) (D:h.Ns N mN) (x:∀ n∈x8,mN n=none) (T:OwnTailC h vbm bm) (H:mroOf (.type "ValueError")=pure vbm)
  (Z:typeLookup (.type "ValueError") n=pure y) (Ja:Q y ⟨h,g,d,t,os⟩):wpAny Ma A (typeLookup (.ref C) n) Q E ⟨h,g,d,t,os⟩:=by
 have c:lookupAlong vbm n=pure y:=by rw[typeLookup_eq,H] at Z;exact Z
 rw[typeLookup_eq];refine oM (wpAny_mroOf_exc F ?_);rw[lookupAlong_cons];refine oM (wpAny_classOwn_exc F D ?_);rw[x n I];clear F D x Z;induction T with
 | base=>rw[c];exact oN Ja
 | own R D u _ K=>
  show wpAny Ma A (lookupAlong _ n) Q E _;rw[lookupAlong_cons];refine oM (wpAny_classOwn_cls R D ?_);rw[u n I];exact K
theorem uP:mroOf (.type "ValueError")=pure vbm:=by kernel_rfl
theorem VG:typeLookup (.type "ValueError") "__class__" = pure (some (.builtin "object.__class__")):=by rw[typeLookup_type,builtinLookup_eq_fast];kernel_rfl
theorem cd8:typeLookup (.type "ValueError") "__getattr__" = pure none:=by rw[typeLookup_type,builtinLookup_eq_fast];kernel_rfl
theorem Ks(u:h.get? C=some (excClassObj nm q C N bs bm hdct sn sub ab col dd k0 k1 k2 k3 k5 newId))(T:OwnTailC h vbm bm)
  (hx:h.get? a=some ⟨.ref C,od,odt,osl⟩) (x:R (.ok (.ret (.ref C))) ⟨h,g,d,t,os⟩) :
  codeAny (model prog w) A (.call (.builtin "getset_descriptor.__get__") ⟨[.builtin "object.__class__",.ref a,.ref C],[]⟩) R ⟨h,g,d,t,os⟩:=by
 have c:(Value.ref C::bm).contains (.type (".".intercalate ("object.__class__".cutAt '.').dropLast))=true:=by
  rw[F.owner_object_class,iy,T.hasType (by k_extra"#")];rfl
 refine codeAny_call_builtin F.slot_gs_get.plain F.entry_gs_get (F.slot_gs_get.check _ _ _ _ _ _ _ _ F.typeOf_object_class (F.args_gs_get _ _ _) ?_)
 repeat (any_goals (first | assumption | with_reducible refine wpAny_loadPart_at hx ?_ | (with_reducible refine wpAny_isSubtype_exc u ?_;rw[c]) | wp_step))
 refine⟨Code.quiet_builtin _ (by k_extra"#"),codeAny_builtin F.entry_object_class ?_⟩
 unfold Builtin.«object.__class__»
 repeat (any_goals (first | assumption | with_reducible refine wpAny_loadPart_at hx ?_ | wp_step))
theorem bF6(y:h.get? C=some (excClassObj nm q C N bs bm hdct sn sub ab col dd k0 k1 k2 k3 k5 newId))(T:OwnTailC h vbm bm)
  (U:h.get? a=some ⟨.ref C,od,odt,osl⟩) (D:Q () ⟨h,g,d,t,os⟩):wpAny Ma A (checkBuiltinCall "BaseException.__getattribute__" ⟨[.ref a,c],[]⟩) Q E ⟨h,g,d,t,os⟩:=by
 have K:builtinKind "BaseException.__getattribute__" = some .slot:=by k_extra"#"
 have u:splitId "BaseException.__getattribute__" = some ("BaseException","__getattribute__"):=by k_extra"#"
 have x:(Value.ref C::bm).contains (.type "BaseException")=true:=by rw[iy,T.hasType (by k_extra"#")];rfl
 have H:=F.args_bexc_ga (.ref a) c;unfold checkBuiltinCall;rw[K,u];refine oM ?_
 ·unfold isInstance
  repeat (first | with_reducible refine wpAny_loadPart_at U ?_ | (with_reducible refine wpAny_isSubtype_exc y ?_;rw[x]) | wp_step)
  exact D
theorem bg8{tk:Tok}(x:h.get? C=some (excClassObj nm q C N bs bm hdct sn sub ab col dd k0 k1 k2 k3 k5 newId))(y:h.Ns N mN)
  (u:∀ n∈x8,mN n=none) (T:OwnTailC h vbm bm) (U:h.get? a=some ⟨.ref C,od,odt,osl⟩) (K:Q (.done (.ret (.ref C))) ⟨h,g,d,t,os⟩) :
  wpAny (model prog w) A (Builtin.«object.__getattribute__» ⟨[.ref a,.str "__class__" tk],[]⟩) Q E ⟨h,g,d,t,os⟩:=by
 have D:=F.typeOf_object_class;have I:=F.typeOf_object_class;have c:=F.slot_gs_get.lookup;have Ja:=F.slot_gs_set.lookup;have H:("__class__" : Str)∈x8:=.tail _ (.tail _ (.head _))
 repeat (any_goals (first | assumption | with_reducible refine wpAny_loadPart_at U ?_ | with_reducible refine vZ H x y u T uP VG ?_ | wp_step))
 refine Ks x T U ?_
 repeat (any_goals (first | assumption | wp_step))
theorem Ws{tk:Tok}(D:h.get? C=some (excClassObj nm q C N bs bm hdct sn sub ab col dd k0 k1 k2 k3 k5 newId))(I:h.Ns N mN)
  (x:∀ n∈x8,mN n=none) (T:OwnTailC h vbm bm) (U:h.get? a=some ⟨.ref C,od,odt,osl⟩) (H:ExcAttrFacts "ValueError") (O:Q (.ref C) ⟨h,g,d,t,os⟩) :
  wpAny (model prog w) A (getAttrBy (.ref a) (.str "__class__" tk) y expr) Q E ⟨h,g,d,t,os⟩:=by
 have u:=H.ga.bind (.ref a);have L:(expr&&onTheHeap (Value.builtin "BaseException.__getattribute__"))=false:=by cases expr<;>rfl
 have K:(Value.builtin "BaseException.__getattribute__" == Value.builtin "object.__getattribute__")=false:=by k_extra"#"
 have R:(onTheHeap (Value.ref C)&&Value.builtin "BaseException.__getattribute__" == Value.builtin "object.__getattribute__")=false:=by rw[K];rfl
 have Ja:("__getattribute__" : Str)∈x8:=.head _;have c:("__getattr__" : Str)∈x8:=.tail _ (.head _)
 repeat (any_goals (first | assumption | with_reducible refine wpAny_loadPart_at U ?_ | with_reducible refine vZ Ja D I x T uP H.ga.lookup ?_ | with_reducible refine vZ c D I x T uP cd8 ?_ | wp_step))
 refine codeAny_call_builtin H.ga.plain F.entry_bexc_ga (bF6 D T U (bg8 D I x T U ?_))
 repeat (any_goals (first | assumption | wp_step))
theorem Xc(u:h.get? C=some (excClassObj nm q C N bs bm hdct sn sub ab col dd k0 k1 k2 k3 k5 newId))(x:h.Ns N mN)
  (c:∀ n∈x8,mN n=none) (T:OwnTailC h vbm bm) (U:h.get? a=some ⟨.ref C,od,odt,osl⟩) (y:Q (some (.ref C)) ⟨h,g,d,t+1,os⟩):wpAny (model prog w) A (getAttr? (.ref a) "__class__") Q E ⟨h,g,d,t,os⟩:=by
 unfold getAttr? getAttrBy?
 repeat (any_goals (first | assumption | with_reducible apply Ws u x c T U F.excAttr_ValueError | wp_step))
theorem MJ{q':Str}{K:List Value}{F:Bool}{X:Option Value}{dep:Int}{tk:Tok}
  (P:h.get? C=some (excClassObj nm q C N bs bm hdct sn sub ab col dd k0 k1 k2 k3 k5 newId)) (u:h.get? x=some (excClassObj nm' q' x N' L K F sn' I H y Z X k1' k2' k3' k5' O)) (hN:h.Ns N mN)
  (R:∀ n∈x8,mN n=none) (T:OwnTailC h vbm bm) (hx:h.get? a=some ⟨.ref C,od,odt,osl⟩) (Y:(Value.ref C::bm).contains (.ref x)=b) (Ja:∀ t,Q (.done (.ret (.bool b))) ⟨h,g,d,t,os⟩) :
  wpAny (model prog w) A (Builtin.«isinstance.nested» ⟨[.ref a,.ref x,.int dep tk],[]⟩) Q E ⟨h,g,d,t,os⟩:=by
 have S:(⟨h,g,d,t,os⟩:Shared).TypeIs (.ref x) "type":=⟨_,u,rfl⟩;by_cases he:C=x
 ·clear S;subst he
  have U:b=true:=by rw[<- Y];simp
  rw[U] at Ja Y;have D:(Value.ref C==Value.ref C)=true:=by simp
  have c:=Ja t
  repeat (any_goals (first | assumption | with_reducible refine wpAny_loadPart_at hx ?_ | wp_step))
 ·have D:(Value.ref C==Value.ref x)=false:=by rw[beq_eq_false_iff_ne];exact λq=>he (Value.ref.inj q)
  cases b with
  | true=>
   have c:=Ja t
   repeat (any_goals (first | assumption | with_reducible refine wpAny_loadPart_at hx ?_ | with_reducible refine wpAny_loadPart_at u ?_ | (with_reducible refine wpAny_isSubtype_exc P ?_;rw[Y]) | wp_step))
  | false=>
   have c:=Ja (t+1)
   repeat (any_goals (first | assumption | with_reducible refine wpAny_loadPart_at hx ?_ | with_reducible refine wpAny_loadPart_at u ?_ | (with_reducible refine wpAny_isSubtype_exc P ?_;rw[Y]) | with_reducible apply Xc P hN R T hx | wp_step))
end
theorem ZM{g:G}{C K a:Addr}(c:M a=some (.ex x))(hx:XC g x C bm)(hy:XC g y K L)
  (hb:(Value.ref C::bm).contains (.ref K)=b) (h:Q (.bool b) M):pD g F (λv=>call (.builtin "isinstance") [v,.ref K]) (.ref a) J M Q X:=(λA env s v I r=>by
 k_extra"cP";refine I6 ((I.sim.objs a _ c).1) λD Ja vs Z ho hc hd=>?_
 obtain rfl:D=C:=by rw[hx.bound] at Z;cases Z;rfl
 refine hx.obj _ ?_;k_extra"bF";refine hy.obj _ ?_;rintro N' nm' q' bs' P sn' sub' ab' Y dd' k0' k1' k2' k3' k5' mN' u hN'-hmN'-T';have H:=I.sim.stays;have O:s.heap.get? a=some ⟨.ref D,Ja.dict,Ja.data,Ja.slots⟩:=by rw[ho,<- hc]
 refine call_isinstance (S:=λz_ R U=>U=s/\∀ t,R (.ok (.ret (.bool b))) {s with toks:=t}) (λprog w A R U p=>d5 p λqa hR=>?_) ⟨rfl,λt=>n5 I h⟩
 clear p;subst qa;obtain⟨hp,gs,dr,tk,os⟩:=U;exact isinstance_outer (MJ (H _ _ hC) (H _ _ u) (hN.keeps H) hmN (T.keeps H) O hb hR) (by intro e;cases e))
theorem cy4{w:World}{h:Heap}{g:Array GenState}{d:Drawn}{t:Nat}{a:Addr}{od:Option Addr}{odt:Data} 
  {nm:Str} {q:Str} {C:Addr} {N:Addr} {bs:List Value} {bm:List Value} {hdct:Bool} {sn:List Str} {sub:List Value} {ab:Bool} {col:Option Bool} {dd:Option Addr} {k0:Option Value} {k1:Option Value} {k2:Option Value} {k3:Option Value} {k5:Option Value} {newId:String} {dep:Int}{tk:Tok}
  (c:h.get? C=some (excClassObj nm q C N bs bm hdct sn sub ab col dd k0 k1 k2 k3 k5 newId)) (U:h.get? a=some ⟨.ref C,od,odt,osl⟩) (Y:(Value.ref C::bm).contains (.type "ValueError")=true) (x:Q (.done (.ret (.bool true))) ⟨h,g,d,t,os⟩) :
  wpAny (model prog w) A (Builtin.«isinstance.nested» ⟨[.ref a,.type "ValueError",.int dep tk],[]⟩) Q E ⟨h,g,d,t,os⟩:=by
 have u:typeOf (.type "ValueError")=pure (.type "type"):=by kernel_rfl
 have D:(Value.ref C==Value.type "ValueError")=false:=rfl
 repeat (any_goals (first | assumption | with_reducible refine wpAny_loadPart_at U ?_ | (with_reducible refine wpAny_isSubtype_exc c ?_;rw[Y]) | wp_step))
theorem aZ6{g:G}{C a:Addr}(c:M a=some (.ex x))(U:XC g x C bm)
  (h:Q (.bool true) M):pD g F (λv=>call (.builtin "isinstance") [v,.type "ValueError"]) (.ref a) J M Q X:=(λA H s v I r=>by
 k_extra"cP";refine I6 ((I.sim.objs a _ c).1) λD Ja vs Z L O hd=>?_
 obtain rfl:D=C:=by rw[U.bound] at Z;cases Z;rfl
 refine U.obj _ ?_;k_extra"bF";refine call_isinstance (S:=λz_ R y=>y=s/\R (.ok (.ret (.bool true))) s) (λprog w A R y p=>d5 p λP K=>?_) ⟨rfl,n6 I h⟩
 clear p;subst P;obtain⟨hp,u,Y,tk,os⟩:=y;exact isinstance_outer (cy4 (odt:=Ja.data) (od:=Ja.dict) (osl:=Ja.slots) (I.sim.stays _ _ hC) (by rw[L,<- O]) (by rw[iy,T.hasType (by k_extra"#")];rfl) K) (by intro e;cases e))
theorem MT(hb:Bi g x (.builtin "isinstance"))(c:g.mg t=some (.ref C))(hk:sc.names.lookup x=some .globalImplicit)(D:sc.names.lookup t=some .globalImplicit)
  (h:Ev g ⟨sc,vs,d,q⟩ e J M (λv u=>pD g ⟨sc,vs,d,q⟩ (λy=>call (.builtin "isinstance") [y,.ref C]) v J u Q X) X) (hd:(x==("__debug__" : Str))=false) (w:(t==("__debug__" : Str))=false)
  (he:∀ env,pg [e,.Name t tp] env=(false,eval e env)::pg [.Name t tp] env):Ev g ⟨sc,vs,d,q⟩ (.Call (.Name x P) [e,.Name t tp] [] pos) J M Q X:=(λA env s I=>by
 k_extra"au";k_extra"bk"
 refine fj hp (s8 hp (wpAny_items_cons (pgo (h A env s I) (λv sw V u r I1 st1 hQ=>wpAny_items_cons (I1.nG D w c (wpAny_items_nil ?_))) λN N p=>p) (he env)))
 exact oO (hQ A env sw v I1 r) (λN N p=>p.step st1) λN N p=>p.step st1)
open PySem PySem.W
structure OC(g:G)(x:Str)(C:Addr)(K:Frag)(cd:ClassData):Prop where
 bound:g.mg x=some (.ref C)
 inn:K.In g.h₀
 cls:clsIn K C=some cd
 hasd:cd.hasDict=true
 ga:findIn K (.ref C) "__getattribute__" = some (some (.builtin "object.__getattribute__"))
 sa:findIn K (.ref C) "__setattr__" = some (some (.builtin "object.__setattr__"))
 ov:plainOver K C=true
noncomputable def A8(fs:List (Str×V))(n:Str)(v:V):List (Str×V):=(n,v)::fs.filter (λp=>p.1 != n)
theorem cr3{K:Frag}{C:Addr}{cd:ClassData}{name:Str}{v:Value}(O:clsIn K C=some cd)(T:findIn K (.ref C) name=some none)(c:cd.hasDict=true)(hl:lookIn name od=some (some v)):findObj K C (some od) name=some (.value v):=by
 have e:PySem.W.ownOf cd (some od) name=some (some v):=by unfold PySem.W.ownOf;rw[if_pos c];exact hl
 unfold findObj;rw[O,T];show Option.bind (PySem.W.ownOf cd (some od) name) _=_;rw[e];rfl
theorem cs2{ep:Nat}{name:Str}{v:Value}(c:o.data=.dict L ep)(h:nsFind L name=some v):lookIn name o=some (some v):=by
 unfold lookIn;rw[c];unfold nsFind findBy at h;rw[<- oJ] at h;cases e:L.toList.find? (λx=>x.key.isStr name) with
 | none=>rw[e] at h;cases h
 | some d=>rw[e] at h;dsimp only;rw[e];exact congrArg some h
theorem bc8:∀ (L:List DictEntry) (l:List Str),(∀ e∈L,∃ n t,e.key=.str n t)->(L.Pairwise λa b=>∀ n,a.key.isStr n=true->b.key.isStr n=true->False)->(∀ e∈L,∀ n,e.key.isStr n=true->n∈l)->L.length<=l.length:=by
 intro L;induction L with
 | nil=>intro l _ _ _;exact cP _
 | cons e L H=>
  refine λl Z S w=>j7 (Z e (.head _)) λn t E=>?_
  have A:e.key.isStr n=true:=by rw[E];simp[Value.isStr]
  have y:=w e (.head _) n A;have Ma:=List.pairwise_cons.mp S;have:=H (l.erase n) (λu q=>Z u (.tail _ q)) Ma.2 λu q D c=>(List.mem_erase_of_ne (λz:D=n=>Ma.1 u q n A (by rw[<- z];exact c))).mpr (w u (.tail _ q) D c)
  rw[List.length_erase_of_mem y] at this;have:=List.length_pos_of_mem y;rw[dD];exact Nat.add_le_of_le_sub this ‹_›
theorem Tu{L:Array DictEntry}{l:List Str}(k:StrKeys L)(u:UniqKeys L)(h:∀ n,nsFind L n≠none->n∈l):L.size<=l.length:=by
 rw[<- cB];refine bc8 _ l (λe c=>k e (jU.mp c)) u λe c n w=>h n λq=>?_
 unfold nsFind findBy at q;rw[mV,Array.find?_eq_none] at q;exact q e (jU.mp c) w
theorem aZ0{v:Value}(r:Rep h v w):handedIn v=true:=by
 cases w with
 | none=>rw[r.aO];rfl
 | bool b=>rw[r.ofBool];rfl
 | int i=>refine d4 r.ofInt λt e=>?_;rw[e];rfl
 | str s=>refine d4 r.ofStr λt e=>?_;rw[e];rfl
 | tup l=>refine k9 r.az λa L n e N N=>?_;rw[e];rfl
 | ref a=>rw[r.aa];rfl
section
variable{g:G}{cls name:Str}{C x d:Addr}{K:Frag}{cd:ClassData}{fs:List (Str×V)}{v:V}
theorem ZR(c:OC g cls C K cd)(E:findIn K (.ref C) name=some none)(hx:M x=some (.ob cls d))(Ja:M d=some (.na fs))(P:(name,v)∈fs)(h:Q v M):pD g F (λu=>getAttr u name true) (.ref x) J M Q X:=λA R s u I r=>by
 rw[r.aa];k_extra"c3"
 k_extra"cG";rw[<- e] at c E;refine f5 (I.sim.objs d _ Ja).1 λm Ma H hl=>x4 Ma λq L ep O D N N T=>a7 (hl _ P) λw S y=>get_value (K:=K) (λa o e=>I.sim.stays a o (c.inn a o e)) ⟨ho,rfl,rfl,O⟩ c.ga (cr3 c.cls E c.hasd (cs2 D ((T name).trans S))) (aZ0 y) ?_
 exact λN U=>U v M y (I.keep Step.toks I.sim) Step.toks h
theorem ce4{z:Value}{P:Hp->Prop}(c:OC g cls C K cd)(hn:takerIn K C name=some none)(hx:M x=some (.ob cls d))(hd:M d=some (.na fs))(hz:((A8 fs name v).map (·.1)).length<=sizeLine+1)(hQ:P (upd M d (.na (A8 fs name v))))(I:Inv g F A env J M s)(rx:Rep s.heap xv (.ref x))(rz:Rep s.heap z v) :
  wpAny (model g.prog g.w) A (setAttr xv name z) (λN s'=>∃ H,Inv g F A env J H s'/\Step (inF A) (ownOf env) M H s s'/\P H) E s:=by
 rw[rx.aa];k_extra"c3"
 k_extra"cG";rw[<- e] at c hn;refine f5 (I.sim.objs d _ hd).1 λm Z Q hl=>?_
 have R:K.In s.heap:=λa o e=>I.sim.stays a o (c.inn a o e)
 refine x4 (id Z) λod es ep O hdd hsk N hf=>?_
 have IA:InstAt s.heap x (instObj C' d) C' (some od):=⟨ho,rfl,rfl,O⟩;refine set_plain (K:=K) R IA c.sa (osa_open (K:=K) (s:={s with toks:=s.toks+1}) R IA c.ov hn λb=>oM (oN (oM (oM (wpAny_loadPart (s:={s with toks:=s.toks+1}) ho (oM ((@looks_clsIn _ (model g.prog g.w) _ R _ _ c.cls) _ _ _ {s with toks:=s.toks+1} (λN N e=>e) ?_)))))))
 rw[c.hasd];refine oN (a:=some d) (oM (oN (oM (wpAny_nsSet1 (s:={s with toks:=s.toks+1}) Z λh' Ja S=>?_))))
 have tu:=O6 Z.ns S;have y:∀ n,(if n=name then some z else m n)≠none->n∈(A8 fs name v).map (·.1):=λn q=>by
  by_cases e:n=name
  ·rw[e];exact .head _
  ·rw[if_neg e] at q
   refine a7 (cD.mp (Q n q)) λp hp qa=>?_;subst qa
   exact gC (.tail _ (gj.mpr ⟨hp,bne_iff_ne.mpr e⟩))
 refine x4 (id Ja) λo' T Y L D k2 u2 f2=>oM (wpAny_lookBehind L (by rw[D];exact pastItsLine_dict (bN (Tu k2 u2 λn q=>y n λe=>q ((f2 n).trans e)) hz)) (oN ?_))
 have U:∀ p∈A8 fs name v,∃ u,(if p.1=name then some z else m p.1)=some u/\Rep h' u p.2:=λp hp=>by
  rcases bR.mp hp with q | q
  ·rw[q];exact⟨z,if_pos rfl,rz.mono tu⟩
  ·exact d5 (gj.mp q) λq1 q2=>a7 (hl p q1) λw hw rw'=>⟨w,(if_neg (bne_iff_ne.mp q2)).trans hw,rw'.mono tu⟩
 obtain⟨I4,st4⟩:=U0 (fr:=inF A) (own:=ownOf env) (tk:=s.toks+1+1) (o':=.na (A8 fs name v)) I hd ⟨_,Ja,y,U⟩ S tu λN N N=>⟨o',L,T,Y,D⟩
 exact⟨_,I4,st4,hQ⟩
end
structure OCl(g:G)(x:Str)(as:List Str)(ms:List (Str×Str)):Prop where
 at':∀ P_:Prop,(∀ (C:Addr) (K:Frag) (cd:ClassData),OC g x C K cd->makesIn K C=true->keepIn K (.ref C)=true->findIn K (.ref C) "__getattr__" = some none->(∀ n∈as,findIn K (.ref C) n=some none)->
  (∀ p∈ms,∃ f,findIn K (.ref C) p.1=some (some (.ref f))/\typeIn K (.ref f)=some (.type "function")/\g.fn p.2=some (.ref f))->P_)->P_
theorem ck7{ep:Nat}{name:Str}(c:o.data=.dict L ep)(P:StrKeys L)(h:nsFind L name=none):lookIn name o=some none:=by
 unfold lookIn;rw[c];unfold nsFind findBy at h;rw[mV,<- oJ] at h;dsimp only
 rw[h];refine if_neg λq=>a7 (ie.mp q) λe u q=>j7 (P e (jU.mp u)) λn t z=>?_
 unfold DictEntry.refKey at q;rw[z] at q;exact bU q
section
variable{g:G}{Q:V->Hp->Prop}{cls name f:Str}{as:List Str}{ms:List (Str×Str)}{args:List Expr}{np:Pos}{y:Str}
theorem bF4(c:OCl g cls as ms)(P:name∈as)(h:Ev g F (.Name y np) J M (λv w=>∃ x d H u,v=.ref x/\w x=some (.ob cls d)/\w d=some (.na H)/\(name,u)∈H/\Q u w) X) :
  Ev g F (.Attribute (.Name y np) name pos) J M Q X:=λA R s I=>by
 rw[arm_eval_Attribute];refine oM (pgo (h A R s I) (λv D V w r Z E L=>Im L λx d H u Ja U O S q=>?_) λN N p=>p)
 clear L;rw[Ja] at r;refine oM (wpAny_standAt (oM (oX (c.at' _ ?_))));rintro C K cd Y - - - Ma -;exact oO (ZR Y (Ma _ P) U O S q A R D v Z r) (λr T p=>oM (oN (oN (p.step E)))) λN N p=>p.step E
theorem Lh{D:Expr}(c:OCl g cls as ms)(hn:name∈as)
  (h:Ev g F D J M (λv u=>Ev g F (.Name y np) J u (λw O=>∃ x d S,w=.ref x/\O x=some (.ob cls d)/\O d=some (.na S)/\((A8 S name v).map (·.1)).length<=sizeLine+1/\T .next J (upd O d (.na (A8 S name v)))) (λx u=>Y x J u)) (λx u=>Y x J u))
  (hs:∀ env,swapsWith D (some (.Attribute (.Name y np) name p')) pos.line env=pure false):Ex g F (.Assign [.Attribute (.Name y np) name p'] D pos) J M T Y:=λA env s I=>by
 refine plainObj_wpAny_Assign_Attribute (pgo (h A env s I) (λv R Vv u rv Z E L=>pgo (L A env R Z) (λa s₂ Va O ra U H Ja=>?_) λN N p=>(p.step E).toS) λN N p=>p.toS) (hs env)
 have Ma:=E.trans H;refine x4 Ja λx d S qa hx hd hz q=>?_;clear Ja;rw[qa] at ra
 refine c.at' _ ?_;rintro C K cd oc - - - ha -;have ht:takerIn K C name=some none:=by unfold takerIn;rw[ha _ hn];rfl
 exact oO (ce4 (P:=λM=>T .next J M) oc ht hx hd hz q U ra (rv.mono H.ak)) (λN s' p=>f5 p λM' I' st' q=>(λN k_=>k_ .next J M' .next I' ((Ma.mono λN h=>h.elim).trans st') q)) λN N p=>p
theorem Rb(c:OCl g cls as ms)(hm:(name,f)∈ms)(hf:∃ H Ma scope,FnAt g f H Ma scope)
  (h:Ev g F o J M (λv w=>∃ x d fs,v=.ref x/\w x=some (.ob cls d)/\w d=some (.na fs)/\name∉fs.map (·.1)/\Evs g F args J w (λvs O=>d8 g F.d F.q f (.ref x::vs) O Q X) X) X)
  (hline:(apos.endLine==pos.line)=true) (hbase:∀ env,attributeBase o name env (eval o env)=eval o env)
  (hfew:∀ env,((backTo pos (pg args env)).all (λx=>!x.1)&&(backToKw pos (keywordEach [] env)).all (λx=>x.1.isSome)
   && decide (args.length+([]:List Keyword).length+(if ([]:List Keyword).isEmpty then 0 else 1)<30))=true) :
  Ev g F (.Call (.Attribute o name apos) args [] pos) J M Q X:=λA env s I=>by
 rw[arm_eval_Call,hbase];refine oM (pgo (h A env s I) (λov sw V w r Z E hq=>x4 hq λx d fs qa hx hd hnm hev=>?_) λN N p=>p)
 clear hq;rw[qa] at r;k_extra"cP";refine oM (wpAny_standAt ?_);have R:methodCallForm (args.length+([]:List Keyword).length) (backTo pos (pg args env)) (backToKw pos (keywordEach [] env))=true:=hfew env;have hpos:methodCallPos true o env apos pos=pure pos:=by unfold methodCallPos;simp[hline]
 unfold methodCall;rw[R];refine c.at' _ ?_;rintro C K cd oc - - hga-hms;refine f5 (hms _ hm) λfa P hty L=>Q7 hf λH Ma scope hfa=>hfa.at' _ ?_
 rintro a ob nm qn pm cdv doc hm' ho Y hcd;have e:=Value.ref.inj (d7 (hm'.symm.trans L));clear hms;rw[<- e] at P hty L;refine a7 (Z.sim.objs x _ hx).1 λC' hC hox=>?_
 have e:=Value.ref.inj (d7 (hC.symm.trans oc.bound));rw[<- e] at oc hga P;refine f5 (Z.sim.objs d _ hd).1 λm hmn hsup hl=>x4 (id hmn) λod es ep hod hdd hsk huk hfd=>?_
 have S:=ck7 hdd hsk ((hfd name).trans (eF λq=>hnm (hsup name q)))
 refine oM (oX (method_fn (K:=K) (od:=some od) (λa o e=>Z.sim.stays a o (oc.inn a o e)) ⟨hox,rfl,rfl,hod⟩ oc.ga hga P hty (by show(lookIn name od).map _=_;rw[S];rfl) (oM (wpAny_of_eq hpos (d5 (hev A env sw pos Z) λhw hp=>?_)))))
 refine lZ (o:=ob) (s8 hp (oO hw (λvs s₂ p_=>p_ _ λVs O rs U T q=>⟨⟨U.sim.stays _ _ ho,Y⟩,?_⟩) λN N p=>p.step E))
 have Ja:=E.trans T;refine wpAny_call (oW (q A s₂ (.ref x::vs) a L U.room U.units U.quiet U.sim U.frs.l (.cons (.ref x) rs)) λr s₃ D=>?_)
 cases r with
 | ok fl=>
  cases fl with
  | ret v=>
   refine D _ ?_;clear D;rintro V u r sm st q';exact(λN k_=>k_ V u r (U.keep st sm) (Ja.trans st) q')
  | _=>exact D.elim
 | error e=>
  refine D _ ?_;clear D;rintro x u r sm st q';exact(λN k_=>k_ x u (r.step Ja) (U.keep st sm) (Ja.trans st) q')
theorem Dr(I:Inv g F A env J M s)(r:s6 g (s.heap.push o) s.heap.objs.size ao) :
  Inv g F A env J (upd M s.heap.objs.size ao) {s with heap:=s.heap.push o}/\Step (inF A) f7 M (upd M s.heap.objs.size ao) s {s with heap:=s.heap.push o}:=
 Dv I Y6 (u5 _) r
theorem bW3(e:h.get? a=some {cls:=.type "dict",data:=.dict #[]}):s6 g h a (.na []):=
 ⟨λz_=>none,⟨_,#[],0,e,rfl,λx U=>absurd U (Array.not_mem_empty x),List.Pairwise.nil,λn=>rfl⟩,λn q=>absurd rfl q,λp Ma=>by cases Ma⟩
theorem bO7(A:Around)(C:Addr)(vs:List Value):(A.under (.builtin "type.__call__" ⟨.ref C::vs,[]⟩)).depth=A.depth+1/\(A.under (.builtin "type.__call__" ⟨.ref C::vs,[]⟩)).frames=A.frames/\(A.under (.builtin "type.__call__" ⟨.ref C::vs,[]⟩)).handled=A.handled/\(A.under (.builtin "type.__call__" ⟨.ref C::vs,[]⟩)).units<=A.units+8:=by
 refine⟨?_,rfl,rfl,fG (show 1+3*0<=8 by decide) _⟩
 ·rfl
theorem co2(c:OCl g cls as ms)(hm:(("__init__" : Str),f)∈ms)(hk:F.sc.names.lookup cls=some .globalImplicit)(hdb:(cls==("__debug__" : Str))=false)
  (h:Evs g F args J M (λvs u=>1<=F.d/\∀ d,u d=none->∀ x,upd u d (.na []) x=none->d8 g (F.d-1) F.q f (.ref x::vs) (upd (upd u d (.na [])) x (.ob cls d)) (λv O=>v=.none/\Q (.ref x) O) noX) X) :
  Ev g F (.Call (.Name cls np) args [] pos) J M Q X:=λA R s I=>by
 refine c.at' _ ?_;rintro C K cd oc hmk hkp - - hms;refine f5 (hms _ hm) λfa hfi hty hfn=>oU (I.nG hk hdb oc.bound (d5 (h A R s pos I) λhw hp=>?_))
 have hp':((backTo pos (pg args R)).any (·.1)||([]:List (Option Str×Sem Value)).any (·.1.isNone))=false:=by rw[hp];rfl
 refine callWith_of (P:=K.In) hp' (keeps_K hkp) (s8 hp (oO hw (λvs D p_=>p_ _ λVs u rs Z E q=>⟨λa o e=>Z.sim.stays a o (oc.inn a o e),d5 q λT q=>?_⟩) λN N p=>p))
 have X1:K.In D.heap:=λa o e=>Z.sim.stays a o (oc.inn a o e)
 obtain⟨U,Ja⟩:=Dr (o:=emptyDict) (ao:=.na []) Z (bW3 (cH _ rfl));obtain⟨Y,S⟩:=Dr (o:=instObj C D.heap.objs.size) (ao:=.ob cls D.heap.objs.size) U ⟨C,oc.bound,cH _ rfl⟩;have q:=q _ Z.sim.fresh _ U.sim.fresh;have H:=(E.trans Ja).trans S;have rs3:=rs.mono (Ja.trans S).ak;refine H4 (bO7 A C vs) λu1 u2 u3 u4=>?_
 have room:=Z.room;have Ma:=Z.units;obtain⟨L,gg,dd,tt,oo⟩:=D;rw[List.nil_append];refine wpAny_call (make_core (makes_of X1 hmk) (looks_findIn X1 hfi) (λself=>bind_fn X1 self hty) (.inl rfl) ?_)
 have e:(L.push emptyDict).objs.size=L.objs.size+1:=ni ..;dsimp only at q Y H rs3
 rw[e] at q Y H;refine oW (q _ _ (.ref (L.objs.size+1)::vs) fa hfn (by rw[u1];exact Ni T room) (bF9 T u4 Ma) (λhq=>u3.trans (Y.quiet hq)) Y.sim ?_ (.cons (.ref _) rs3)) λr s₃ w=>?_
 ·refine Y.frs.l _ ?_;rintro l ha all
  exact λN k_=>k_ l (u2.trans ha) all
 ·have hin:inF (A.under (.builtin "type.__call__" ⟨.ref C::vs,[]⟩))=inF A:=by funext b;unfold inF;rw[u2]
  cases r with
  | ok fl=>
   cases fl with
   | ret v=>
    k_extra"cS";rintro V M' r sm st hh;refine d5 hh λqa q'=>?_;clear hh;rw[qa] at r
    rw[hin] at st;exact⟨r.aO,(λN k_=>k_ (.ref _) M' (.ref _) (Y.keep st sm) (H.trans st) q')⟩
   | _=>exact w.elim
  | error e=>refine w _ ?_;rintro _ _ _ _ _ q';exact q'.elim
end
noncomputable def tS(p:Str×Int):V:=.tup [.str p.1,.int p.2]
theorem Za:∀ {c:List Value},c.length=l.length->(∀ (i:Nat) (v:Value) (x:V),c[i]?=some v->l[i]?=some x->Rep h v x)->d9 h c l:=by
 induction l with
 | nil=>intro c e _;rw[fP.mp e];exact .nil
 | cons x l ih=>
  intro c e k;cases c with
  | nil=>cases e
  | cons v c=>exact .cons (k 0 v x rfl rfl) (ih (Nat.succ.inj e) λi v x a b=>k (i+1) v x a b)
section
variable{g:G}{Q:V->Hp->Prop}
def Mj(g:G)(F:Blk)(A:Around)(env:Env)(J:List (Option V))(M:Hp)(s:Shared)(R:List (Str×V)->Hp->Prop)(w:Value)(T:Shared):Prop:=
 ∀ x:Prop,(∀ (a Ma:Addr) (L:List (Str×V)) (u:List (Str×Value)) (ep:Nat) (c:Hp) (e:w=.ref Ma) (D:T.heap.IsItemsView Ma a) (C:T.heap.DictAt (PySem.strKind g.prog g.w) a u ep) (r:KVs T.heap u L) (i:Inv g F A env J c T) (y:Step (inF A) f7 M c s T) (q:R L c),x)->x
theorem Fb(h:Ev g F o J M (λv q=>∃ a L,v=.ref a/\q a=some (.ds L)/\R L q) X)(u:(x.endLine==pos.line)=true)
  (D:∀ env,attributeBase o (bM "items") env (eval o env)=eval o env) (I:Inv g F A env J M s) :
  wpAny (model g.prog g.w) A (eval (.Call (.Attribute o (bM "items") x) [] [] pos) env) (Mj g F A env J M s R) (j6 g F A env J M s X) s:=by
 refine wpAny_Call_method (D env) rfl u PySem.F.plainAttrs_dict PySem.F.slot_dict_items PySem.F.type_dict_items (pgo (h A env s I) (λov T V q r Z y C=>?_) λN N p=>p)
 refine g6 C λa L O c Ma=>?_
 rw[O] at r C;k_extra"cP";refine j7 ((Z.dict (kdS g) c).has) λY ep S=>⟨⟨_,S,rfl⟩,λb e=>by cases e;exact⟨_,S,rfl⟩,?_⟩
 refine(Z.dict (kdS g) c) _ ?_;rintro H Ja O P;refine fj rfl (PySem.evalArgs_none (call_meetsIn PySem.F.slot_dict_items Ja.typeIs PySem.F.entry_dict_items (PySem.F.args_dict_items_1 _) (meets_dict_items (PySem.strKind g.prog g.w) a P) ⟨⟨H,Ja⟩,?_⟩));exact d4 Ja.dictAt λep K=>λN U=>U a _ L H ep q rfl ⟨_,cH _ rfl,rfl,rfl⟩ (K.push _) (O.mono (Step.push (fr:=inF A) (own:=f7) (M:=M)).ak) (Z.keep Step.push Z.sim.push) y.aY Ma
theorem Fg(O:PySem.W.KdxG (PySem.strKind g.prog g.w) kvs y h as)(hl:as.length=kvs.length)(r:KVs h kvs L):d9 h (as.map Value.ref) (L.map F7):=by
 k_extra"a8"
 refine Za (by rw[bQ,bQ,hl,e0]) λi v x Y H=>?_
 rw[bW] at Y H;refine a7 (cL.mp Y) λa R Ja=>?_;clear Y;subst Ja
 refine a7 (cL.mp H) λp Ma Ja=>?_;clear H;subst Ja
 obtain⟨c,k,x,I,C,P⟩:=O.pairs i a R;have K:k=p.1:=by
  have:(kvs.map (·.1))[i]?=(L.map (·.1))[i]?:=congrArg (·[i]?) r.1
  rw[bW,bW,I,Ma] at this;exact d7 this
 refine a7 (r.2.get (i:=i) (x:=p.2) (by rw[bW,Ma];rfl)) λu D q=>?_
 rw[bW,I] at D;have D:=d7 D;subst D;refine d4 (Value.isStrOf_shape C) λt Ja=>?_;clear D;clear C;subst Ja
 rw[K] at P;exact .tup P (.cons (.str _ t) (.cons q .nil))
theorem Mt(hb:Bi g x (.type "list"))(hk:F.sc.names.lookup x=some .globalImplicit)(hd:(x==("__debug__" : Str))=false)(Ma:F.q=true)
  (h:Ev g F o J M (λv q=>∃ a L,v=.ref a/\q a=some (.ds L)/\L.length<=10000/\∀ b,q b=none->Q (.ref b) (upd q b (.L (L.map F7)))) X) (u:(apos.endLine==p'.line)=true)
  (hbase:∀ env,attributeBase o (bM "items") env (eval o env)=eval o env):Ev g F (.Call (.Name x np) [.Call (.Attribute o (bM "items") apos) [] [] p'] [] pos) J M Q X:=λA env s I=>by
 k_extra"au";refine callWith_excType rfl (s8 rfl (wpAny_items_cons (oO (Fb (R:=λL q=>L.length<=10000/\∀ b,q b=none->Q (.ref b) (upd q b (.L (L.map F7)))) h u hbase I) (λw T p=>wpAny_items_nil ?_) λN N p=>p) rfl))
 k_extra"3";rintro a vw L kvs ep q rfl P hd r U C ⟨Y,K⟩;k_extra"a8"
 refine PySem.W.kdx_call (U.quiet Ma) P hd (by rw[e0];exact bN Y (by decide)) λy Z H c as D S hl O Ja=>?_
 refine l8.step C (F3 (s':={T with heap:=y,toks:=Z}) U ⟨D,rfl,rfl⟩ (u5 _) S ?_ K)
 rw[Ja];exact Fg O hl (r.mono λb vs n e=>D b _ e)
end
noncomputable def B4{c:Type}(n:Nat)(b:Nat->Nat->Bool):PySem.W.KasT c->Option c
 | .ret a=>some a
 | .ask i j k=>bif decide (i<n)&&(decide (j<n) && !(i==j)) then B4 n b (k (b i j)) else none
theorem Qy{c:Type}(O:∀ i j (C:Bool->Shared->Prop),i<n->j<n->i≠j->C (b i j) s->cmp i j C s){Q:c->Shared->Prop}{a:c}:∀ t:PySem.W.KasT c,B4 n b t=some a->Q a s->t.kasWp cmp Q s:=by
 intro t;induction t with
 | ret x=>intro e q;have e:=d7 e;subst e;exact q
 | ask i j k u=>
  intro e q;have e:(bif decide (i<n)&&(decide (j<n) && !(i==j)) then B4 n b (k (b i j)) else none)=some a:=e;cases z:decide (i<n)&&(decide (j<n) && !(i==j)) with
  | false=>rw[z] at e;exact i6 e
  | true=>
   rw[z] at e;k_extra"cl";exact O i j _ (f4 z1) (f4 z2) (by simpa using z3) (u _ e q)
theorem Yx{u:Type}(h:∀ i j,i<n->j<n->i≠j->b i j=c i j):∀ t:PySem.W.KasT u,B4 n b t=B4 n c t:=by
 intro t;induction t with
 | ret x=>rfl
 | ask i j k q=>
  show(bif decide (i<n)&&(decide (j<n) && !(i==j)) then B4 n b (k (b i j)) else none)=(bif decide (i<n)&&(decide (j<n) && !(i==j)) then B4 n c (k (c i j)) else none);cases z:decide (i<n)&&(decide (j<n) && !(i==j)) with
  | false=>rfl
  | true=>
   k_extra"cl";show B4 n b (k (b i j))=B4 n c (k (c i j));rw[h i j (f4 z1) (f4 z2) (by simpa using z3),q]
def K3(q u x y C c:Bool)(i j:Nat):Bool:=if i<j then[q,u,x,y,C,c].getD (j*(j-1) / 2+i) false else ![q,u,x,y,C,c].getD (i*(i-1) / 2+j) false
def kTr(n:Nat)(b:Nat->Nat->Bool):Bool:=(cY n).all λi=>(cY n).all λj=>(cY n).all λk=>i==j||j==k||i==k || !(b i j&&b j k)||b i k
def kOk(n:Nat)(b:Nat->Nat->Bool)(o:Option (Array Nat)):Bool:=match o with
 | none=>false
 | some p=>(p.size==n)&&(p.toList.isPerm (cY n)&&decide (p.toList.Pairwise λi j=>b i j=true))
theorem aY6:∀ n,n<5->∀ q u x y C c:Bool,kTr n (K3 q u x y C c)=true->kOk n (K3 q u x y C c) (B4 n (K3 q u x y C c) (PySem.W.kas_sort n))=true:=by k_extra"#"
def ltP(p q:Str×Int):Prop:=p.1.cps.toList<q.1.cps.toList
noncomputable def pz:Str×Int:=(⟨#[]⟩,0)
def kB(ps:List (Str×Int))(i j:Nat):Bool:=decide ((ps.getD i pz).1.cps.toList<(ps.getD j pz).1.cps.toList)
theorem yI{ps:List (Str×Int)}(x:(ps.map (·.1)).Nodup)(q:i<ps.length)(u:j<ps.length)(c:i≠j):(ps.getD i pz).1≠(ps.getD j pz).1:=λe=>by
 have Z:(ps.map (·.1))[i]?=some (ps.getD i pz).1:=by rw[bW,cI,bO q];rfl
 have S:(ps.map (·.1))[j]?=some (ps.getD i pz).1:=by rw[e,bW,cI,bO u];rfl
 exact c (Gl x Z S)
theorem VM{ps:List (Str×Int)}(y:(ps.map (·.1)).Nodup)(u:i<ps.length)(x:j<ps.length)(c:i≠j):kB ps i j = !kB ps j i:=by
 unfold kB;have ne:(ps.getD i pz).1.cps.toList≠(ps.getD j pz).1.cps.toList:=λe=>yI y u x c (bq4 e)
 rcases lR ((ps.getD i pz).1.cps.toList<(ps.getD j pz).1.cps.toList) with q | q
 ·rw[decide_eq_true q,decide_eq_false (List.lt_asymm q)];rfl
 ·rw[decide_eq_false q,decide_eq_true];· rfl
  rcases lR ((ps.getD j pz).1.cps.toList<(ps.getD i pz).1.cps.toList) with z | z
  ·exact z
  ·exact absurd (List.le_antisymm (List.not_lt.mp z) (List.not_lt.mp q)) ne
theorem zR{b:Nat->Nat->Bool}(h:i<j)(c:j<4):K3 (b 0 1) (b 0 2) (b 1 2) (b 0 3) (b 1 3) (b 2 3) i j=b i j:=by
 match j,i,h with
 | 1,0,_=>rfl
 | 2,0,_=>rfl
 | 2,1,_=>rfl
 | 3,0,_=>rfl
 | 3,1,_=>rfl
 | 3,2,_=>rfl
 | j+4,_,_=>exact absurd c (by lia)
 | 1,i+1,h=>exact absurd h (by lia)
 | 2,i+2,h=>exact absurd h (by lia)
 | 3,i+3,h=>exact absurd h (by lia)
 | 0,i,h=>exact absurd h (gA _)
theorem Rp{ps:List (Str×Int)}(O:(ps.map (·.1)).Nodup)(I:ps.length<=4):∃ p:Array Nat,B4 ps.length (kB ps) (PySem.W.kas_sort ps.length)=some p/\p.toList.Perm (cY ps.length)/\p.toList.Pairwise (λi j=>kB ps i j=true):=by
 have H:∀ i j,i<ps.length->j<ps.length->i≠j->kB ps i j=K3 (kB ps 0 1) (kB ps 0 2) (kB ps 1 2) (kB ps 0 3) (kB ps 1 3) (kB ps 2 3) i j:=λi j x y c=>by
  rcases Nat.lt_or_gt_of_ne c with q | q
  ·exact(zR q (Gq I y)).symm
  ·rw[VM O x y c,<- zR (b:=kB ps) q (Gq I x)]
   unfold K3;rw[if_pos q,if_neg (Nat.lt_asymm q)]
 have P:kTr ps.length (K3 (kB ps 0 1) (kB ps 0 2) (kB ps 1 2) (kB ps 0 3) (kB ps 1 3) (kB ps 2 3))=true:=by
  refine cX.mpr λi x=>cX.mpr λj y=>cX.mpr λk K=>?_
  rw[dY] at x y K;by_cases Ja:i=j
  ·simp[Ja]
  by_cases C:j=k
  ·simp[C]
  by_cases L:i=k
  ·simp[L]
  rw[<- H i j x y Ja,<- H j k y K C,<- H i k x K L];unfold kB;simp only[iu,Bool.not_eq_true',Bool.and_eq_false_iff,decide_eq_false_iff_not,decide_eq_true_eq]
  rcases lR ((ps.getD i pz).1.cps.toList<(ps.getD j pz).1.cps.toList) with R | R
  ·rcases lR ((ps.getD j pz).1.cps.toList<(ps.getD k pz).1.cps.toList) with D | D
   ·exact .inr (List.lt_trans R D)
   ·exact .inl (.inr (.inr D))
  ·exact .inl (.inr (.inl R))
 have u:=aY6 ps.length (iC I) _ _ _ _ _ _ P;rw[<- Yx H] at u;cases e:B4 ps.length (kB ps) (PySem.W.kas_sort ps.length) with
 | none=>rw[e] at u;exact absurd u bU
 | some p=>
  rw[e] at u;have u:=u;obtain⟨-,u⟩:=dw.mp u;obtain⟨Z,S⟩:=dw.mp u;have Ma:=List.isPerm_iff.mp Z;refine⟨p,rfl,Ma,?_⟩;refine List.Pairwise.imp_of_mem (fun{i j} x y z=>?_) (List.Pairwise.and (f4 S) (Ma.nodup_iff.mpr jD))
  rw[H i j (dY.mp (Ma.mem_iff.mp x)) (dY.mp (Ma.mem_iff.mp y)) z.2];exact z.1
theorem wk(a:Rep h v (tS p)){C:Prop}(k:∀ (c:Addr) (vs:Array Value) (n:Nat) (t u:Tok),v=.ref c->h.get? c=some (seqObj "tuple" vs n)->vs.toList=[.str p.1 t,.int p.2 u]->C):C:=by
 refine k9 a.az λc vs n e D r=>g6 r.two λx y q r1 r2=>?_
 refine d4 r1.ofStr λt H=>d4 r2.ofInt λu K=>?_
 exact k c vs n t u e D (by rw[q,H,K])
section
variable{w:World}
theorem Yb(K:Rep s.heap x (tS p))(Ma:Rep s.heap y (tS q))(D:p.1≠q.1)(h:R (decide (p.1.cps.toList<q.1.cps.toList)) s):wpAny (model prog w) A (keyLt' (tuples' true) x y) R E s:=by
 refine wk K λc U n t u e Ja I=>wk Ma λT L m P S H O C=>?_
 rw[e,H];refine PySem.W.kat_lt Ja rfl O rfl ?_;rw[I,C];exact PySem.W.kat_cons (eqBool_str (PySem.W.kat_go (λz=>absurd (beq_iff_eq.mp z) D) λz=>PySem.W.kat_no (oneLt_str h)))
theorem Qc{ps:List (Str×Int)}(r:d9 s.heap vs (ps.map tS)):∃ y,(∀ v∈y,∃ x t,v=.str x t)/\y.length=ps.length/\PySem.W.KatTups s.heap vs y:=by
 induction ps generalizing vs with
 | nil=>rw[r.aA];exact⟨[],λv hv=>(by cases hv),rfl,.nil⟩
 | cons p ps Ja=>
  refine g6 r.aj λv L e r1 r2=>wk r1 λc K n t u D I C=>?_
  refine f5 (Ja r2) λy Z H S=>?_
  rw[e,D];refine⟨.str p.1 t::y,λv hv=>?_,congrArg (· + 1) H,.cons I rfl rfl (by rw[<- cM,C];rfl) S⟩
  rcases bR.mp hv with q | q
  ·exact⟨_,_,q⟩
  ·exact Z v q
theorem Kv{ps:List (Str×Int)}(r:d9 s.heap vs (ps.map tS))(q:ps≠[]){Q:SortKind->Shared->Prop}(h:Q (tuples' true) s):wpAny (model prog w) A (keyKind' vs.toArray) Q E s:=by
 refine f5 (Qc r) λx c hl R=>PySem.W.kat_kind (T:=.type "str") R (by rw[hl];exact List.length_pos_iff.mpr q) (λv u=>?_) (by decide) h
 obtain⟨n,t,e⟩:=c v u;rw[e];exact .now
theorem Ml{q:Type}{c:Prop}[Decidable c]{x y:Sem q}{Q:q->Shared->Prop}(Z:c->wpAny Ma A x Q E s)(S:¬c->wpAny Ma A y Q E s):wpAny Ma A (if c then x else y) Q E s:=by
 by_cases e:c
 ·rw[if_pos e];exact Z e
 ·rw[if_neg e];exact S e
theorem CN{c:Type}(l:List c)(d:c):(cY l.length).map (λi=>l.getD i d)=l:=by
 apply jm;intro i;rw[bW];by_cases h:i<l.length
 ·rw[gB h,bO h,jN,cI,bO h];rfl
 ·rw[fH (by rw[dM];exact dO h),fH (dO h)];rfl
theorem vD{vs:List Value}{ps:List (Str×Int)}(r:d9 h vs (ps.map tS))(c:i<ps.length):Rep h (vs.getD i .none) (tS (ps.getD i pz)):=by
 refine a7 (r.get (i:=i) (x:=tS (ps.getD i pz)) (by rw[bW,cI,bO c];rfl)) λv e q=>?_
 rw[cI,e];exact q
theorem bM5{h:Heap}{vs:List Value}{ps:List (Str×Int)}(r:d9 h vs (ps.map tS)){p:List Nat}(c:∀ i∈p,i<ps.length):d9 h (p.map λi=>vs.getD i .none) ((p.map λi=>ps.getD i pz).map tS):=by
 induction p with
 | nil=>exact .nil
 | cons i p u=>exact .cons (vD r (c i (fX ..))) (u λj q=>c j (dX _ q))
theorem pw_two{R:Nat->Nat->Prop}{n:Nat}(h:n<2):(cY n).Pairwise R:=by
 cases n with
 | zero=>exact .nil
 | succ n=>cases n with
  | zero=>exact .cons (λy L=>by cases L) .nil
  | succ n=>exact absurd (ju (ju h)) (gA _)
noncomputable def sE(a:Addr)(n:Nat)(st:SortSt):Sem PySem.Fin:=do
 let c:=(<- seqEpoch a) != n
 Builtin.List.listUpdate (.ref a) λz_=>(arrOf st).map (·.2)
 if let some e:=failedOf st then rule "list.sort.comparison-raised";throw e
 if c then rule "list.sort.modified";raiseError "ValueError" "list modified during sort"
 ret .none
noncomputable def sR(a:Addr)(items:Array Value)(n:Nat)(kd:SortKind):Sem PySem.Fin:=do
 let r <- (if items.size<2 then pure () else sortRuns').run (SortSt.mk' kd (items.zip items) #[] 7 none)
 sE a n r.2
noncomputable def sB(a:Addr)(items:Array Value)(n:Nat):Sem PySem.Fin:=do
 let kd <- if items.size<2 then pure general' else keyKind' items
 sR a items n kd
theorem Qo(a:Addr):Builtin.«list.sort» ⟨[.ref a],[]⟩=(do
  let items <- Builtin.List.listItems (.ref a)
  Builtin.List.listUpdate (.ref a) λz_=>#[]
  let n <- seqEpoch a
  let held <- newTuple items.toList
  let keyStore <- newList []
  holding [held,keyStore] (sB a items n)):=rfl
theorem aZ9{a:Addr}{n:Nat}{st:SortSt}{out:Array Value}{P:PySem.Fin->Shared->Prop}(c:s.heap.get? a=some (seqObj "list" #[] n))(T:failedOf st=none)(q:(arrOf st).map (·.2)=out)(hz:out.size<=sizeLine+1)
  (h:P (.done (.ret .none)) {s with heap:=s.heap.update a (eO λz_=>out)}):wpAny (model prog w) A (sE a n st) P E s:=by
 rw[<- q] at hz h;refine oM (seqEpoch_at c rfl (oM (listUpdate_at c rfl ?_ (cP _) hz)));show wpAny _ _ (match failedOf st with | some e=>_ | x=>_) _ _ _
 rw[T];exact wN (by simp) (oN h)
theorem Om{a:Addr}{n:Nat}{kd:SortKind}{vs:List Value}{ps:List (Str×Int)}{P:PySem.Fin->Shared->Prop}(ho:s.heap.get? a=some (seqObj "list" #[] n))(r:d9 s.heap vs (ps.map tS))(hd:(ps.map (·.1)).Nodup)(h4:ps.length<=4)(hl:vs.length=ps.length)(hk:¬ vs.toArray.size<2->kd=tuples' true)
  (h:∀ p:List Nat,p.Perm (cY ps.length)->(p.Pairwise λi j=>kB ps i j=true)->P (.done (.ret .none)) {s with heap:=s.heap.update a (eO λN=>(p.map λi=>vs.getD i .none).toArray)}):wpAny (model prog w) A (sR a vs.toArray n kd) P E s:=by
 have fin:∀ (st:SortSt) (p:List Nat),failedOf st=none->(arrOf st).map (·.2)=(p.map λi=>vs.getD i .none).toArray->p.Perm (cY ps.length)->(p.Pairwise λi j=>kB ps i j=true)->wpAny (model prog w) A (sE a n st) P E s:=λst p hf he hp hs=>
  aZ9 ho hf he (by rw[iD,bQ,hp.length_eq,dM];exact bN h4 (by decide)) (h p hp hs)
 clear h;refine oM ?_;by_cases h2:vs.toArray.size<2
 ·rw[if_pos h2,StateT.run_pure]
  refine oN (fin _ (cY ps.length) rfl ?_ (.refl _) (pw_two (by rw[<- hl];exact h2)))
  show(pairsOf vs).map (·.2)=_
  rw[<- hl,CN];apply Array.toList_inj.mp;rw[Array.toList_map,pairsOf_toList,lO (cO _)]
 ·rw[if_neg h2,hk h2]
  refine f5 (Rp hd h4) λp hrun hp hpw=>?_
  refine PySem.W.kat_run (ks:=vs) (vs:=vs) (G:=λq s'=>s'=s/\q=p) (Q:=λst s'=>wpAny (model prog w) A (sE a n st) P E s') rfl (iU.mp h2) (by rw[hl];exact dq h4 (by decide)) (λq st' s' N har hf hq=>?_) ?_
  ·rw[hq.1];exact fin st' p.toList hf (by rw[<- hq.2];exact PySem.W.kat_snds rfl har) hp hpw
  ·rw[hl]
   exact Qy (n:=ps.length) (b:=kB ps) (λi j C hi hj hij hC=>Yb (vD r hi) (vD r hj) (yI hd hi hj hij) hC) _ hrun ⟨rfl,rfl⟩
theorem TX{vs:List Value}{ps:List (Str×Int)}(C:s.heap.get? a=some (seqObj "list" vs.toArray n))(r:d9 s.heap vs (ps.map tS))(L:(ps.map (·.1)).Nodup)(h4:ps.length<=4)
  (h:∀ (out:Array Value) (Ja:List (Str×Int)),d9 s.heap out.toList (Ja.map tS)->Ja.Perm ps->Ja.Pairwise ltP->P (.done (.ret .none)) {s with heap:=sortedHeap s.heap a vs out}) :
  wpAny (model prog w) A (Builtin.«list.sort» ⟨[.ref a],[]⟩) P E s:=by
 have hl:vs.length=ps.length:=by rw[r.length,bQ]
 have D:vs.length<=sizeLine:=by rw[hl];exact bN h4 (by decide)
 have k:∀ {n H},H.get? a=some (seqObj "list" #[] n)->l6 s.heap H->(∀ out,H.update a (eO λz_=>out)=sortedHeap s.heap a vs out)->wpAny (model prog w) A (sB a vs.toArray n) P E {s with heap:=H}:=fun{n H} C I e=>by
  have k:∀ {kd:SortKind},(¬ vs.toArray.size<2->kd=tuples' true)->wpAny (model prog w) A (sR a vs.toArray n kd) P E {s with heap:=H}:=λK=>Om C (r.mono I) L h4 hl K λp Ma R=>by
   show P _ {s with heap:=H.update a _}
   rw[e];refine h _ (p.map λi=>ps.getD i pz) (bM5 r λi O=>dY.mp (Ma.mem_iff.mp O)) ?_ ?_
   ·have:=Ma.map λi=>ps.getD i pz
    rwa[CN] at this
   ·rw[List.pairwise_map];exact List.Pairwise.imp (fun{i j} z=>by unfold kB at z;unfold ltP;exact f4 z) R
  refine Ml (λe=>oM (oN (k λq=>absurd e q))) λe=>oM (Kv (r.mono I) (λz=>e ?_) (k λz_=>rfl))
  rw[iD,hl,z];exact Nat.zero_lt_two
 rw[Qo];refine oM (listItems_at C rfl (oM (listUpdate_at C rfl (oM (seqEpoch_at (get?_update_seq C λz_=>#[]) rfl (oM (wpAny_newTuple (oM (wpAny_newList (oX (k (bZ _ (bZ _ (get?_update_seq C λz_=>#[]))) (λb S m e=>?_) λz_=>rfl)) (cP _))) D)))) D (cP _))))
 refine bZ _ (bZ _ ?_);rw[jV _ _ _ _ (λq=>by rw[q,C] at e;have:=congrArg Obj.cls (d7 e);simp at this)];exact e
theorem bk6(c:h.get? a=some (seqObj "list" vs.toArray n)):l6 h (sortedHeap h a vs out):=λb u m e=>
 (sortedHeap_old (λq=>by rw[q,c] at e;have:=congrArg Obj.cls (d7 e);simp at this) (dJ e)).trans e
theorem yw{Q:Value->Shared->Prop} (h:wpAny (model prog w) A.in1 (collect x) (λvs s'=>∃ ps:List (Str×Int),d9 s'.heap vs (ps.map tS)/\(ps.map (·.1)).Nodup/\ps.length<=4/\∀ (out:Array Value) (Ja:List (Str×Int)),d9 (sortedHeap (s'.heap.push (seqObj "list" vs.toArray 0)) s'.heap.objs.size vs out) out.toList (Ja.map tS)->Ja.Perm ps->Ja.Pairwise ltP->
   Q (.ref s'.heap.objs.size) {s' with heap:=sortedHeap (s'.heap.push (seqObj "list" vs.toArray 0)) s'.heap.objs.size vs out}) E s):wpAny (model prog w) A (call (.builtin "sorted") [x]) Q E s:=by
 k_extra"aL";refine oM (m:=checkCount "sorted" 1 1 _) (oN (oM (oO h (λvs s' c=>?_) λN N e=>e)))
 refine F2 c λps r D u C=>?_
 have q:vs.length=ps.length:=by rw[r.length,bQ]
 refine oM (wpAny_newList ?_ (by rw[q];exact bN u (by decide)))
 k_extra"ad";have H:l6 s'.heap (s'.heap.push (seqObj "list" vs.toArray 0)):=λb I m e=>bZ _ e
 refine oM (oX (wpAny_call_entry slot_list_sort ⟨_,hoL,rfl⟩ entry_list_sort (TX (s:={s' with heap:=s'.heap.push (seqObj "list" vs.toArray 0)}) hoL (r.mono H) D u λout Ja Z S y=>⟨_,rfl,?_⟩) (args_list_sort _)))
 refine oN ⟨_,rfl,C out Ja (Z.mono (bk6 hoL)) S y⟩
end
section
variable{g:G}{Q:V->Hp->Prop}
theorem cl2{ps:List (Str×Int)}(c:M a=some (.L (ps.map tS)))(x:(ps.map (·.1)).Nodup)(h4:ps.length<=4)(h:∀ (b:Addr) (Ja:List (Str×Int)),M b=none->Ja.Perm ps->Ja.Pairwise ltP->Q (.ref b) (upd M b (.L (Ja.map tS)))) :
  Cl g F (.builtin "sorted") [.ref a] J M Q X:=(λA env s vs I rs=>by
  obtain⟨_,rfl,r0⟩:=rs.one;k_extra"cv";obtain⟨items,Ma,r⟩:=(I.sim.objs a _ c).1;k_extra"bx"
  have y:items.toList.length<=sizeLine:=by rw[r.length,bQ];exact bN h4 (by decide)
  have x1:Ext s {s with heap:=(s.heap.push (seqObj "list" #[] 0)).update s.heap.objs.size (eO (· ++ items.toList.toArray))}:=⟨λb o e=>by
   k_extra"ai"
   rw[jV _ _ _ _ (dU (dJ e))];exact bZ _ e,rfl,rfl⟩
  refine yw (collect_list hl ?_ y);refine⟨ps,r.mono λb L n e=>x1.heap b _ e,x,h4,λout Ja Z S q=>?_⟩
  obtain⟨e,u⟩:=sortedHeap_at (out:=out) (vs:=items.toList) (n:=0) (h:=(((s.heap.push (seqObj "list" #[] 0)).update s.heap.objs.size (eO (· ++ items.toList.toArray))).push (seqObj "list" items.toList.toArray 0)))
   (a:=((s.heap.push (seqObj "list" #[] 0)).update s.heap.objs.size (eO (· ++ items.toList.toArray))).objs.size) (cH _ rfl)
  refine F3 I (x1.trans Z4) (I9 ?_) u Z λb Y=>h b Ja Y S q
  rw[Heap.size_update,size_push'];lia)
theorem bu3(hb:Bi g x (.builtin "sorted"))(hk:F.sc.names.lookup x=some .globalImplicit)(hd:(x==("__debug__" : Str))=false)(hq:F.q=true)
  (h:Ev g F o J M (λv c=>∃ (a:Addr) (ps:List (Str×Int)),v=.ref a/\c a=some (.ds (ps.map λp=>(p.1,V.int p.2)))/\(ps.map (·.1)).Nodup/\ps.length<=4/\∀ (b:Addr) (Ja:List (Str×Int)),c b=none->Ja.Perm ps->Ja.Pairwise ltP->Q (.ref b) (upd c b (.L (Ja.map tS)))) X) (u:(apos.endLine==p'.line)=true)
  (hbase:∀ env,attributeBase o (bM "items") env (eval o env)=eval o env):Ev g F (.Call (.Name x np) [.Call (.Attribute o (bM "items") apos) [] [] p'] [] pos) J M Q X:=λA env s I=>by
 refine oU (I.nB hk hd hb.1 hb.2 ?_);refine fj rfl (s8 rfl (wpAny_items_cons (oO (Fb (R:=λL c=>∃ ps:List (Str×Int),L=(ps.map λp=>(p.1,V.int p.2))/\(ps.map (·.1)).Nodup/\ps.length<=4/\∀ (b:Addr) (Ja:List (Str×Int)),c b=none->Ja.Perm ps->Ja.Pairwise ltP->Q (.ref b) (upd c b (.L (Ja.map tS))))
  (h.mono λv c p=>g6 p λa ps P S Y=>⟨a,_,P,S,ps,rfl,Y⟩) u hbase I) (λw T p=>wpAny_items_nil ?_) λN N p=>p) rfl))
 k_extra"3";rintro a vw L H ep c rfl hv hd r U C ⟨ps,rfl,hn,Ma,hQ⟩;have O:H.length=ps.length:=by have:=congrArg List.length r.1;rwa[bQ,bQ,bQ] at this
 show wpAny _ A (call (.builtin "sorted") [.ref vw]) _ _ T;refine yw (PySem.W.kdx_collect (A:=A.in1) (U.quiet hq) hv hd (by rw[O];exact bN Ma (by decide)) λy tk K D hl hG=>?_)
 have tu:l6 T.heap y:=λb vs n e=>D b _ e
 refine⟨ps,?_,hn,Ma,λout Ja Z h2 h3=>?_⟩
 ·have:=Fg hG hl (r.mono tu)
  rw[fK] at this;exact this
 ·refine l8.step C ?_
  have x1:Ext T {T with heap:=y,toks:=tk}:=⟨D,rfl,rfl⟩
  obtain⟨e,he⟩:=sortedHeap_at (out:=out) (vs:=K.map Value.ref) (n:=0) (h:=y.push (seqObj "list" (K.map Value.ref).toArray 0)) (a:=y.objs.size) (cH _ rfl);refine F3 U (x1.trans Z4) ?_ he Z λb hb=>hQ b Ja hb h2 h3
  cases q:T.heap.get? y.objs.size with
  | none=>rfl
  | some o=>have:=D _ _ q;rw[u5] at this;exact i6 this
end
theorem abP{c:Sort _}{x:c}{G:c->Prop}(k:∀ P:c->Prop,(∀ y,G y->P y)->P x):G x:=k G λz_ h=>h
inductive Item where
 | fn (k:Nat)
 | int (i:Int)
 | str (s:Str)
 | bi (id:String)
 | ty (id:String)
 | dict (D:List (Str×Int))
 | cls (C:Addr) (bm:List Value)
 | mth (k:Nat)
 | ob (as:List Str) (ms:List (Str×Str))
abbrev Tab:=List (Str×Item)
def S6(g:G)(x:Str):Item->Prop
 | .fn k=>FnAt g x (dAt g.prog k).params (dAt g.prog k).body (dAt g.prog k).scope/\∃ v,g.mg x=some v
 | .int i=>Gi g x i
 | .str s=>Gs g x s
 | .bi id=>Bi g x (.builtin id)
 | .ty id=>Bi g x (.type id)
 | .dict D=>Gd g x D
 | .cls C F=>XC g x C F
 | .mth k=>FnAt g x (dAt g.prog k).params (dAt g.prog k).body (dAt g.prog k).scope
 | .ob A c=>OCl g x A c
class inductive TabOK (g:G):Tab->Prop
 | nil:TabOK g []
 | cons {x:Str} {it:Item} {T:Tab} (h:S6 g x it) (r:TabOK g T):TabOK g ((x,it)::T)
theorem TabOK.at'(h:TabOK g T):∀ {x:Str} {c:Item},T.lookup x=some c->S6 g x c:=by
 induction h with
 | nil=>intro x c e;cases e
 | @cons y u T h r q=>
  intro x c e;rw[eU] at e;cases L:x==y with
  | true=>rw[L] at e;cases e;rw[beq_iff_eq.mp L];exact h
  | false=>rw[L] at e;exact q e
theorem no{c:Type}{t:c}{P:Prop}(h:none=some t):P:=nomatch h
structure EP where
 name:Option Str:=none
 const:Option Const:=none
 bin:Option (Expr×Operator×Expr):=none
 un:Option (UnaryOp×Expr):=none
 bool:Option (BoolOp×List Expr×Pos):=none
 cmp:Option (Expr×List CmpOp×List Expr):=none
 tup:Option (List Expr):=none
 L:Option (List Expr):=none
 sub:Option (Expr×Expr):=none
 slc:Option (Option Expr×Option Expr×Option Expr):=none
 call:Option (Expr×List Expr×List Keyword×Pos):=none
 attr:Option (Expr×Str×Pos):=none
 comp:Option (Expr×List Comprehension×Scope):=none
 dict:Option (List (Option Expr)×List Expr):=none
 star:Bool:=false
 set:Bool:=false
 odd:Bool:=false
noncomputable def EP.z:EP:={}
noncomputable def EP.o:EP:={odd:=true}
def ep(e:Expr):EP:=Expr.casesOn (motive_1:=λN=>EP) e (λo l p=>{bool:=some (o,l,p)}) (λN N N=>.z) (λl o r N=>{bin:=some (l,o,r)}) (λo r N=>{un:=some (o,r)}) (λN N N N=>.z) (λN N N N=>.o) (λk v N=>{dict:=some (k,v)}) (λN N N=>{set:=true,odd:=true}) (λe l s N=>{comp:=some (e,l,s),odd:=true}) (λN N N N=>.o) (λN N N N N=>.o) (λN N N N=>.z) (λN N=>.z) (λN N=>.z) (λN N=>.z) (λl o r N=>{cmp:=some (l,o,r)}) (λf a k p=>{call:=some (f,a,k,p)}) (λN N N N=>.z) (λN N=>.z) (λc N N=>{const:=some c}) (λo x p=>{attr:=some (o,x,p)}) (λa b N=>{sub:=some (a,b)}) (λN N=>{star:=true,odd:=true}) (λx N=>{name:=some x}) (λl N=>{L:=some l}) (λl N N=>{tup:=some l}) (λa b c N=>{slc:=some (a,b,c)})
structure EOK(p:EP)(x:Expr):Prop where
 name:∀ t,p.name=some t->∃ p,x=.Name t p
 const:∀ t,p.const=some t->∃ k p,x=.Constant t k p
 bin:∀ t,p.bin=some t->∃ p,x=.BinOp t.1 t.2.1 t.2.2 p
 un:∀ t,p.un=some t->∃ p,x=.UnaryOp t.1 t.2 p
 bool:∀ t,p.bool=some t->x=.BoolOp t.1 t.2.1 t.2.2
 cmp:∀ t,p.cmp=some t->∃ p,x=.Compare t.1 t.2.1 t.2.2 p
 tup:∀ t,p.tup=some t->∃ k p,x=.Tuple t k p
 L:∀ t,p.L=some t->∃ p,x=.List t p
 sub:∀ t,p.sub=some t->∃ p,x=.Subscript t.1 t.2 p
 slc:∀ t,p.slc=some t->∃ p,x=.Slice t.1 t.2.1 t.2.2 p
 call:∀ t,p.call=some t->x=.Call t.1 t.2.1 t.2.2.1 t.2.2.2
 attr:∀ t,p.attr=some t->x=.Attribute t.1 t.2.1 t.2.2
 comp:∀ t,p.comp=some t->∃ p,x=.ListComp t.1 t.2.1 t.2.2 p
 dict:∀ t,p.dict=some t->∃ p,x=.Dict t.1 t.2 p
theorem r4:EOK .z x:=⟨λz_=>no,λz_=>no,λz_=>no,λz_=>no,λz_=>no,λz_=>no,λz_=>no,λz_=>no,λz_=>no,λz_=>no,λz_=>no,λz_=>no,λz_=>no,λz_=>no⟩
theorem vP:EOK .o x:=⟨λz_=>no,λz_=>no,λz_=>no,λz_=>no,λz_=>no,λz_=>no,λz_=>no,λz_=>no,λz_=>no,λz_=>no,λz_=>no,λz_=>no,λz_=>no,λz_=>no⟩
theorem w9(e:Expr):EOK (ep e) e:=Expr.casesOn (motive_1:=λe=>EOK (ep e) e) e
 (λo l p=>{(r4:EOK .z _) with bool:=λt h=>by obtain rfl:=d7 h;rfl})
 (λN N N=>r4)
 (λl o r p=>{(r4:EOK .z _) with bin:=λt h=>by obtain rfl:=d7 h;exact⟨p,rfl⟩})
 (λo r p=>{(r4:EOK .z _) with un:=λt h=>by obtain rfl:=d7 h;exact⟨p,rfl⟩})
 (λN N N N=>r4) (λN N N N=>vP) (λk v p=>{(r4:EOK .z _) with dict:=λt h=>by obtain rfl:=d7 h;exact⟨p,rfl⟩}) (λN N N=>{(r4:EOK .z _) with})
 (λe l s p=>{(r4:EOK .z _) with comp:=λt h=>by obtain rfl:=d7 h;exact⟨p,rfl⟩})
 (λN N N N=>vP) (λN N N N N=>vP) (λN N N N=>r4) (λN N=>r4) (λN N=>r4) (λN N=>r4)
 (λl o r p=>{(r4:EOK .z _) with cmp:=λt h=>by obtain rfl:=d7 h;exact⟨p,rfl⟩})
 (λf a k p=>{(r4:EOK .z _) with call:=λt h=>by obtain rfl:=d7 h;rfl})
 (λN N N N=>r4) (λN N=>r4)
 (λc k p=>{(r4:EOK .z _) with const:=λt h=>by obtain rfl:=d7 h;exact⟨k,p,rfl⟩})
 (λo x p=>{(r4:EOK .z _) with attr:=λt h=>by obtain rfl:=d7 h;rfl})
 (λa b p=>{(r4:EOK .z _) with sub:=λt h=>by obtain rfl:=d7 h;exact⟨p,rfl⟩})
 (λN N=>{(r4:EOK .z _) with})
 (λx p=>{(r4:EOK .z _) with name:=λt h=>by obtain rfl:=d7 h;exact⟨p,rfl⟩})
 (λl p=>{(r4:EOK .z _) with L:=λt h=>by obtain rfl:=d7 h;exact⟨p,rfl⟩})
 (λl k p=>{(r4:EOK .z _) with tup:=λt h=>by obtain rfl:=d7 h;exact⟨k,p,rfl⟩})
 (λa b c p=>{(r4:EOK .z _) with slc:=λt h=>by obtain rfl:=d7 h;exact⟨p,rfl⟩})
def s0(e:Expr):Option Str:=(ep e).name
theorem C9(h:s0 x=some t):∃ p,x=.Name t p:=(w9 x).name t h
def E2(e:Expr):Option Const:=(ep e).const
theorem xV(h:E2 x=some t):∃ k p,x=.Constant t k p:=(w9 x).const t h
def rD(e:Expr):Option (Expr×Operator×Expr):=(ep e).bin
theorem cy2(h:rD x=some t):∃ p,x=.BinOp t.1 t.2.1 t.2.2 p:=(w9 x).bin t h
def R2(e:Expr):Option (UnaryOp×Expr):=(ep e).un
theorem cn0(h:R2 x=some t):∃ p,x=.UnaryOp t.1 t.2 p:=(w9 x).un t h
def R4(e:Expr):Option (BoolOp×List Expr×Pos):=(ep e).bool
theorem Tv(h:R4 x=some t):x=.BoolOp t.1 t.2.1 t.2.2:=(w9 x).bool t h
def P6(e:Expr):Option (Expr×List CmpOp×List Expr):=(ep e).cmp
theorem Dc(h:P6 x=some t):∃ p,x=.Compare t.1 t.2.1 t.2.2 p:=(w9 x).cmp t h
def G4(e:Expr):Option (List Expr):=(ep e).tup
theorem Y4(h:G4 x=some t):∃ k p,x=.Tuple t k p:=(w9 x).tup t h
def W8(e:Expr):Option (List Expr):=(ep e).L
theorem vG(h:W8 x=some t):∃ p,x=.List t p:=(w9 x).L t h
def L6(e:Expr):Option (Expr×Expr):=(ep e).sub
theorem bt2(h:L6 x=some t):∃ p,x=.Subscript t.1 t.2 p:=(w9 x).sub t h
def pL(e:Expr):Option (Option Expr×Option Expr×Option Expr):=(ep e).slc
theorem Zi(h:pL x=some t):∃ p,x=.Slice t.1 t.2.1 t.2.2 p:=(w9 x).slc t h
def A5(e:Expr):Option (Expr×List Expr×List Keyword×Pos):=(ep e).call
theorem Bt(h:A5 x=some t):x=.Call t.1 t.2.1 t.2.2.1 t.2.2.2:=(w9 x).call t h
def E1(e:Expr):Option (Expr×Str×Pos):=(ep e).attr
theorem bW8(h:E1 x=some t):x=.Attribute t.1 t.2.1 t.2.2:=(w9 x).attr t h
def tH(e:Expr):Option (Expr×List Comprehension×Scope):=(ep e).comp
theorem RT(h:tH x=some t):∃ p,x=.ListComp t.1 t.2.1 t.2.2 p:=(w9 x).comp t h
def qR(e:Expr):Option (List (Option Expr)×List Expr):=(ep e).dict
theorem JK(h:qR x=some t):∃ p,x=.Dict t.1 t.2 p:=(w9 x).dict t h
def star(e:Expr):Bool:=(ep e).star
def uO(e:Expr):Bool:=(ep e).set
def odd(e:Expr):Bool:=(ep e).odd
def wH(e:Expr):Bool:=!odd e&&(R2 e).isNone&&(R4 e).isNone&&(P6 e).isNone
structure EOF(x:Expr):Prop where
 star:star x=false->∀ (es:List Expr) (env:Env),pg (x::es) env=(false,eval x env)::pg es env
 swaps:odd x=false->∀ (t:Option Expr) (n:Nat) (env:Env),swapsWith x t n env=pure false
 swsub:∀ (o i:Expr) (p:Pos) (n:Nat) (env:Env),swapsWith x (some (.Subscript o i p)) n env=pure false
 fold:uO x=false->∀ (env:Env) (v:Value),foldedSetIterable x env v=pure v
 subs:pL x=none->∀ (o i:Value),subscripted x false o i=operate [o,i] (getItem o i)
 base:A5 x=none->∀ (n:Str) (env:Env) (w:Sem Value),attributeBase x n env w=w
 tru:wH x=true->∀ (env:Env) (w:Sem Value),isTrue x env w=(do let v <- w;standAt x.pos;holding [v] (truthy v))
theorem ft{P:Prop}(h:true=false):P:=(bU h.symm).elim
theorem tf{P:Prop}(h:false=true):P:=(bU h).elim
theorem sn{c:Type}{t:c}{P:Prop}(h:some t=none):P:=nomatch h
theorem K0(x:Expr):EOF x:=by
 refine Expr.casesOn (motive_1:=λx=>EOF x) x ?_ ?_ ?_ ?_ ?_ ?_ ?_ ?_ ?_ ?_ ?_ ?_ ?_ ?_ ?_ ?_ ?_ ?_ ?_ ?_ ?_ ?_ ?_ ?_ ?_ ?_ ?_<;>intros<;>refine⟨?_,?_,λN N N N N=>rfl,?_,?_,?_,?_⟩
 all_goals first | exact λN N N=>rfl | exact λN N N N=>rfl | exact ft | exact sn | exact tf
theorem v8(h:star e=false):pg (e::L) env=(false,eval e env)::pg L env:=(K0 e).star h _ _
theorem HQ(h:odd e=false):swapsWith e t n env=pure false:=(K0 e).swaps h _ _ _
theorem bM0:swapsWith e (some (.Subscript o i p)) n env=pure false:=(K0 e).swsub _ _ _ _ _
theorem Ah(h:uO e=false):foldedSetIterable e env x=pure x:=(K0 e).fold h _ _
theorem xn(h:pL e=none):subscripted e false o i=operate [o,i] (getItem o i):=(K0 e).subs h _ _
theorem Od(h:A5 e=none):attributeBase e x env w=w:=(K0 e).base h _ _ _
theorem KJ(h:wH e=true):isTrue e env w=(do let v <- w;standAt e.pos;holding [v] (truthy v)):=(K0 e).tru h _ _
noncomputable def N1(o:BoolOp)(p:Pos)(e:Expr):List Expr->Expr
 | []=>e
 | es=>.BoolOp o (e::es) p
noncomputable def gl(sc:Scope)(x:Str):Bool:=decide (sc.names.lookup x=some .globalImplicit) && !(x==("__debug__" : Str))
noncomputable def HW:Option Item->Bool
 | some (.fn _)=>true
 | _=>false
noncomputable def K8(id:String):Option Item->Bool
 | some (.bi x)=>decide (x=id)
 | _=>false
noncomputable def E5(id:String):Option Item->Bool
 | some (.ty x)=>decide (x=id)
 | _=>false
noncomputable def Ik(D:List (Str×Int)):Option Item->Bool
 | some (.dict x)=>decide (x=D)
 | _=>false
noncomputable def qw:Option Item->Bool
 | some (.cls _ _)=>true
 | _=>false
noncomputable def P7(b:Bool):Option Item->Option Item->Bool
 | some (.cls C F),some (.cls c _)=>(Value.ref C::F).contains (.ref c)==b
 | some (.cls _ _),some (.ty id)=>decide (id = "ValueError")&&b
 | _,_=>false
def Z6(T:Tab)(y:Str)(ys E:List Str):Bool:=ys.all (λx=>P7 true (T.lookup x) (T.lookup y))&&E.all (λx=>P7 false (T.lookup x) (T.lookup y))
noncomputable def isV:Option Item->V->Bool
 | some (.int i),.int j=>decide (i=j)
 | some (.str i),.str j=>decide (i=j)
 | _,_=>false
noncomputable def isC:Option Const->V->Bool
 | some .none,.none=>true
 | some (.bool i),.bool j=>decide (i=j)
 | some (.int i),.int j=>decide (i=j)
 | some (.str i),.str j=>decide (i=j)
 | _,_=>false
def isG(T:Tab)(sc:Scope)(v:V):Option Str->Bool
 | some n=>gl sc n&&isV (T.lookup n) v
 | none=>false
noncomputable def e7{c:Type}(o:Option c)(f:c->Bool):Bool:=match o with
 | some t=>f t
 | none=>false
noncomputable def one{c:Type}(l:List c)(f:c->Bool):Bool:=match l with
 | [x]=>f x
 | _=>false
noncomputable def two{c:Type}(l:List c)(f:c->c->Bool):Bool:=match l with
 | [x,y]=>f x y
 | _=>false
noncomputable def qM{c:Type}(l:List c)(f:c->c->List c->Bool):Bool:=match l with
 | x::y::r=>f x y r
 | _=>false
theorem b9(h:(a&&b)=true):a=true/\b=true:=by cases a<;>cases b<;>first | exact⟨rfl,rfl⟩ | exact(bU h).elim
inductive A7(a b c d e f g:Bool):Prop
 | mk (h1:a=true) (h2:b=true) (h3:c=true) (h4:d=true) (h5:e=true) (h6:f=true) (h7:g=true):A7 a b c d e f g
theorem xT(h:(a&&(b&&(c&&(d&&(e&&(f&&g))))))=true):A7 a b c d e f g:=
 ⟨(b9 h).1,(b9 (b9 h).2).1,(b9 (b9 (b9 h).2).2).1,(b9 (b9 (b9 (b9 h).2).2).2).1,(b9 (b9 (b9 (b9 (b9 h).2).2).2).2).1,(b9 (b9 (b9 (b9 (b9 (b9 h).2).2).2).2).2).1,(b9 (b9 (b9 (b9 (b9 (b9 h).2).2).2).2).2).2⟩
theorem m7(h:(!a)=true):a=false:=by cases a<;>first | rfl | exact(bU h).elim
theorem i7{c:Type}{o:Option c}{f:c->Bool}(h:e7 o f=true):∃ t,o=some t/\f t=true:=by
 cases o with
 | none=>exact(bU h).elim
 | some t=>exact⟨t,rfl,h⟩
theorem q9{c:Type}{l:List c}{f:c->Bool}(h:one l f=true):∃ t,l=[t]/\f t=true:=by
 cases l with
 | nil=>exact(bU h).elim
 | cons x l=>cases l with
  | nil=>exact⟨x,rfl,h⟩
  | cons _ _=>exact(bU h).elim
theorem y0{c:Type}{l:List c}{f:c->c->Bool}(h:two l f=true):∃ t u,l=[t,u]/\f t u=true:=by
 cases l with
 | nil=>exact(bU h).elim
 | cons x l=>cases l with
  | nil=>exact(bU h).elim
  | cons y l=>cases l with
   | nil=>exact⟨x,y,rfl,h⟩
   | cons _ _=>exact(bU h).elim
theorem RB{c:Type}{l:List c}{f:c->c->List c->Bool}(h:qM l f=true):∃ t u r,l=t::u::r/\f t u r=true:=by
 cases l with
 | nil=>exact(bU h).elim
 | cons x l=>cases l with
  | nil=>exact(bU h).elim
  | cons y l=>exact⟨x,y,l,rfl,h⟩
def t9(x:Expr)(P:Str->List Expr->Bool):Bool:=e7 (A5 x) λt=>t.2.2.1.isEmpty&&e7 (s0 t.1) λn=>P n t.2.1
theorem u0(h:t9 x P=true):∃ n A q p,x=.Call (.Name n q) A [] p/\P n A=true:=by
 refine a7 (i7 h) λt e h=>d5 (b9 h) λY h=>?_
 refine a7 (i7 h) λn c h=>d4 (C9 c) λq c=>?_
 exact⟨n,t.2.1,q,t.2.2.2,by rw[Bt e,c,dh.mp Y],h⟩
theorem Iw{F:Str->List Expr->Bool}{P:Expr->Prop}(h:t9 x F=true)(k:∀ n as c p,F n as=true->P (.Call (.Name n c) as [] p)):P x:=by
 refine v3 (u0 h) λn as c p Ja e=>?_;clear h;subst Ja
 exact k n as c p e
theorem Ut{c:Type}{l:List c}{f:c->c->Bool}{P:List c->Prop}(h:two l f=true)(k:∀ t u,f t u=true->P [t,u]):P l:=by
 refine i5 (y0 h) λt u Ja e=>?_;clear h;subst Ja
 exact k t u e
def T8(x:Expr):Bool:=(A5 x).isNone||t9 x λz_ A=>!A.isEmpty
theorem Q0(h:T8 x=true):attributeBase x n env w=w:=by
 rcases(iu _ _).mp h with e | e
 ·exact Od (fM.mp e)
 ·obtain⟨m,A,c,p,rfl,e⟩:=u0 (P:=λz_ A=>!A.isEmpty) e
  cases A with
  | nil=>exact tf e
  | cons a A=>rfl
def biC(T:Tab)(sc:Scope)(f:Option Item->Bool)(k:List Expr->Bool)(n:Str)(as:List Expr):Bool:=gl sc n&&(f (T.lookup n)&&k as)
def BJ(k:Expr->Bool)(e:Expr):Bool:=!star e&&k e
def Q6(k:Expr->Bool)(as:List Expr):Bool:=one as k
def Ae(T:Tab)(sc:Scope)(id:String)(k:Expr->Bool)(r:Expr):Bool:=t9 r (biC T sc (E5 id) (Q6 (BJ k)))
def QM(k r:Expr->Bool)(e u:Expr):Bool:=!star e&&(k e&&r u)
def wI(k r:Expr->Bool)(as:List Expr):Bool:=two as (QM k r)
def zu(f:Str->Bool)(x:Expr):Bool:=e7 (s0 x) f
def tyN(T:Tab)(sc:Scope)(id:String)(m:Str):Bool:=gl sc m&&E5 id (T.lookup m)
def bM8(T:Tab)(sc:Scope)(y:Str)(ys E:List Str)(m:Str):Bool:=decide (m=y)&&(gl sc m&&((qw (T.lookup m)||E5 "ValueError" (T.lookup m))&&Z6 T m ys E))
def bL1(T:Tab)(sc:Scope)(Y c:Expr):Bool:=e7 (s0 Y) (tyN T sc "list")&&e7 (s0 c) (tyN T sc "tuple")
def Ow(T:Tab)(sc:Scope)(l:List Expr):Bool:=two l (bL1 T sc)
def Wx(T:Tab)(sc:Scope)(u:Expr):Bool:=e7 (G4 u) (Ow T sc)
def bF3(T:Tab)(sc:Scope)(f:Str)(k:List Expr->Bool)(n:Str)(as:List Expr):Bool:=decide (n=f)&&(gl sc n&&(HW (T.lookup n)&&k as))
noncomputable def cn2(op:Operator)(k1 k2:Expr->Bool)(t:Expr×Operator×Expr):Bool:=decide (t.2.1=op)&&(k1 t.1&&k2 t.2.2)
noncomputable def cw0(op:CmpOp)(k1 k2:Expr->Bool)(l:Expr)(o:CmpOp)(r:Expr):Bool:=decide (o=op)&&(!behindInMarks o r&&(k1 l&&k2 r))
def Oh(op:CmpOp)(k1 k2:Expr->Bool)(l:Expr)(rs:List Expr)(o:CmpOp):Bool:=one rs (cw0 op k1 k2 l o)
def ZX(op:CmpOp)(k1 k2:Expr->Bool)(t:Expr×List CmpOp×List Expr):Bool:=one t.2.1 (Oh op k1 k2 t.1 t.2.2)
noncomputable def ck6(o p:CmpOp)(k1 k2 k3:Expr->Bool)(l:Expr)(o' c:CmpOp)(r s:Expr):Bool:=decide (o'=o)&&(decide (c=p)&&(!lastMarks [o',c] [r,s]&&(k1 l&&(k2 r&&k3 s))))
def Wz(o p:CmpOp)(k1 k2 k3:Expr->Bool)(l:Expr)(rs:List Expr)(o' c:CmpOp):Bool:=two rs (ck6 o p k1 k2 k3 l o' c)
def MF(o p:CmpOp)(k1 k2 k3:Expr->Bool)(t:Expr×List CmpOp×List Expr):Bool:=two t.2.1 (Wz o p k1 k2 k3 t.1 t.2.2)
noncomputable def tG(k:List Expr->Bool)(l:List Expr):Bool:=decide (l.length<=10000)&&k l
def KC(op:CmpOp)(k1:Expr->Bool)(k2:List Expr->Bool)(l:Expr)(o:CmpOp)(r:Expr):Bool:=decide (o=op)&&(k1 l&&e7 (W8 r) (tG k2))
def bD5(op:CmpOp)(k1:Expr->Bool)(k2:List Expr->Bool)(l:Expr)(rs:List Expr)(o:CmpOp):Bool:=one rs (KC op k1 k2 l o)
def WY(op:CmpOp)(k1:Expr->Bool)(k2:List Expr->Bool)(t:Expr×List CmpOp×List Expr):Bool:=one t.2.1 (bD5 op k1 k2 t.1 t.2.2)
def PB(k1 k2:Expr->Bool)(t:Expr×Expr):Bool:=(pL t.2).isNone&&(k1 t.1&&k2 t.2)
def Ji(n:Nat)(k:Expr->Bool)(t:Expr×Expr):Bool:=isC (E2 t.2) (.int n)&&(decide (n<=10000)&&k t.1)
def bd1(k1:Expr->Bool)(k2:List Expr->Bool)(t:Expr×Expr):Bool:=(pL t.2).isNone&&(k1 t.2&&e7 (W8 t.1) (tG k2))
noncomputable def PQ(k1:Expr->Bool)(k2 k3:Option Expr->Bool)(l:Expr)(u:Option Expr×Option Expr×Option Expr):Bool:=u.2.2.isNone&&(k1 l&&(k2 u.1&&k3 u.2.1))
def ci5(k1:Expr->Bool)(k2 k3:Option Expr->Bool)(t:Expr×Expr):Bool:=e7 (pL t.2) (PQ k1 k2 k3 t.1)
def xB(nm:Str)(k1:Expr->Bool)(k2:List Expr->Bool)(as:List Expr)(p:Pos)(u:Expr×Str×Pos):Bool:=decide (u.2.1=nm)&&((u.2.2.endLine==p.line)&&(T8 u.1&&(decide (as.length<20)&&(k1 u.1&&k2 as))))
def Ox(k2 k3:Expr->Bool)(e y:Expr):Bool:=!star e&&(!star y&&(k2 e&&k3 y))
def Lj(k1 k2 k3:Expr->Bool)(as:List Expr)(p:Pos)(u:Expr×Str×Pos):Bool:=decide (u.2.1=bM "get")&&((u.2.2.endLine==p.line)&&(T8 u.1&&(k1 u.1&&two as (Ox k2 k3))))
structure SP where
 ret:Option (Option Expr):=none
 iff:Option (Expr×List Stmt×List Stmt):=none
 asg:Option (List Expr×Expr×Pos):=none
 expr:Option Expr:=none
 loop:Option (Expr×Expr×List Stmt×List Stmt):=none
 whl:Option (Expr×List Stmt×List Stmt):=none
 pass:Option Unit:=none
 brk:Option Unit:=none
 aL:Option (Option Expr×Option Expr):=none
 tri:Option (List Stmt×List ExceptHandler×List Stmt×List Stmt):=none
noncomputable def SP.z:SP:={}
def sp(e:Stmt):SP:=Stmt.casesOn (motive_2:=λN=>SP) e (λN N N N N N N N N N=>.z) (λN N N N N N N N N N=>.z) (λN N N N N N N N N N N=>.z) (λa b=>{ret:=some a}) (λN N=>.z) (λa b c=>{asg:=some (a,b,c)}) (λN N N N N N N=>.z) (λN N N N=>.z) (λN N N N N=>.z) (λa b c d e=>{loop:=some (a,b,c,d)}) (λN N N N N=>.z) (λa b c d=>{whl:=some (a,b,c)}) (λa b c d=>{iff:=some (a,b,c)}) (λN N N=>.z) (λN N N=>.z) (λN N N=>.z) (λa b N=>{aL:=some (a,b)}) (λa b c d N=>{tri:=some (a,b,c,d)}) (λN N N N N=>.z) (λN N N=>.z) (λN N=>.z) (λN N N N=>.z) (λN N=>.z) (λN N=>.z) (λa b=>{expr:=some a}) (λa=>{pass:=some ()}) (λa=>{brk:=some ()}) (λN=>.z)
structure SOK(p:SP)(x:Stmt):Prop where
 ret:∀ t,p.ret=some t->∃ p,x=.Return t p
 iff:∀ t,p.iff=some t->∃ p,x=.If t.1 t.2.1 t.2.2 p
 asg:∀ t,p.asg=some t->x=.Assign t.1 t.2.1 t.2.2
 expr:∀ t,p.expr=some t->∃ p,x=.Expr t p
 loop:∀ t,p.loop=some t->∃ p,x=.For t.1 t.2.1 t.2.2.1 t.2.2.2 p
 whl:∀ t,p.whl=some t->∃ p,x=.While t.1 t.2.1 t.2.2 p
 pass:∀ t,p.pass=some t->∃ p,x=.Pass p
 brk:∀ t,p.brk=some t->∃ p,x=.Break p
 aL:∀ t,p.aL=some t->∃ p,x=.Raise t.1 t.2 p
 tri:∀ t,p.tri=some t->∃ p,x=.Try t.1 t.2.1 t.2.2.1 t.2.2.2 p
theorem n7:SOK .z x:=⟨λz_=>no,λz_=>no,λz_=>no,λz_=>no,λz_=>no,λz_=>no,λz_=>no,λz_=>no,λz_=>no,λz_=>no⟩
theorem G6(e:Stmt):SOK (sp e) e:=Stmt.casesOn (motive_2:=λe=>SOK (sp e) e) e (λN N N N N N N N N N=>n7) (λN N N N N N N N N N=>n7) (λN N N N N N N N N N N=>n7) (λN N=>{(n7:SOK .z _) with ret:=λt h=>by obtain rfl:=d7 h;exact⟨_,rfl⟩}) (λN N=>n7) (λN N N=>{(n7:SOK .z _) with asg:=λt h=>by obtain rfl:=d7 h;exact rfl}) (λN N N N N N N=>n7) (λN N N N=>n7) (λN N N N N=>n7) (λN N N N N=>{(n7:SOK .z _) with loop:=λt h=>by obtain rfl:=d7 h;exact⟨_,rfl⟩}) (λN N N N N=>n7) (λN N N N=>{(n7:SOK .z _) with whl:=λt h=>by obtain rfl:=d7 h;exact⟨_,rfl⟩}) (λN N N N=>{(n7:SOK .z _) with iff:=λt h=>by obtain rfl:=d7 h;exact⟨_,rfl⟩}) (λN N N=>n7) (λN N N=>n7) (λN N N=>n7) (λN N N=>{(n7:SOK .z _) with aL:=λt h=>by obtain rfl:=d7 h;exact⟨_,rfl⟩}) (λN N N N N=>{(n7:SOK .z _) with tri:=λt h=>by obtain rfl:=d7 h;exact⟨_,rfl⟩}) (λN N N N N=>n7) (λN N N=>n7) (λN N=>n7) (λN N N N=>n7) (λN N=>n7) (λN N=>n7) (λN N=>{(n7:SOK .z _) with expr:=λt h=>by obtain rfl:=d7 h;exact⟨_,rfl⟩}) (λN=>{(n7:SOK .z _) with pass:=λt h=>by obtain rfl:=d7 h;exact⟨_,rfl⟩}) (λN=>{(n7:SOK .z _) with brk:=λt h=>by obtain rfl:=d7 h;exact⟨_,rfl⟩}) (λN=>n7)
def vd(e:Stmt):Option (Option Expr):=(sp e).ret
theorem bc1(h:vd x=some t):∃ p,x=.Return t p:=(G6 x).ret t h
def tX(e:Stmt):Option (Expr×List Stmt×List Stmt):=(sp e).iff
theorem Xx(h:tX x=some t):∃ p,x=.If t.1 t.2.1 t.2.2 p:=(G6 x).iff t h
def pH(e:Stmt):Option (List Expr×Expr×Pos):=(sp e).asg
theorem Zf(h:pH x=some t):x=.Assign t.1 t.2.1 t.2.2:=(G6 x).asg t h
def um(e:Stmt):Option Expr:=(sp e).expr
theorem cg3(h:um x=some t):∃ p,x=.Expr t p:=(G6 x).expr t h
def qY(e:Stmt):Option (Expr×Expr×List Stmt×List Stmt):=(sp e).loop
theorem Yp(h:qY x=some t):∃ p,x=.For t.1 t.2.1 t.2.2.1 t.2.2.2 p:=(G6 x).loop t h
def tL(e:Stmt):Option (Expr×List Stmt×List Stmt):=(sp e).whl
theorem cy5(h:tL x=some t):∃ p,x=.While t.1 t.2.1 t.2.2 p:=(G6 x).whl t h
def Eo(e:Stmt):Bool:=(sp e).brk.isSome
theorem Jd(h:Eo x=true):∃ p,x=.Break p:=(G6 x).brk () (fO.mp h).choose_spec
theorem Y7{F:_->Bool}{P:Expr->Prop}(h:e7 (s0 x) F=true)(k:∀ n p,F n=true->P (.Name n p)):P x:=by
 refine a7 (i7 h) λu E T=>?_;clear h
 refine d4 (C9 E) λc Ja=>?_;subst Ja
 exact k _ _ T
theorem DQ{F:_->Bool}{P:Expr->Prop}(h:e7 (rD x) F=true)(k:∀ l o r p,F (l,o,r)=true->P (.BinOp l o r p)):P x:=by
 k_extra"c4";refine d4 (cy2 e1) λc Ja=>?_;subst Ja
 exact k _ _ _ _ hf
theorem ao8{F:_->Bool}{P:Expr->Prop}(h:e7 (R2 x) F=true)(k:∀ o r p,F (o,r)=true->P (.UnaryOp o r p)):P x:=by
 obtain⟨⟨q,u⟩,E,hf⟩:=i7 h;clear h;refine d4 (cn0 E) λc Ja=>?_;subst Ja
 exact k _ _ _ hf
theorem vW{F:_->Bool}{P:Expr->Prop}(h:e7 (R4 x) F=true)(k:∀ o l p,F (o,l,p)=true->P (.BoolOp o l p)):P x:=by
 obtain⟨⟨u,q,c⟩,E,hf⟩:=i7 h;clear h;obtain rfl:=Tv E;exact k _ _ _ hf
theorem Zj{F:_->Bool}{P:Expr->Prop}(h:e7 (P6 x) F=true)(k:∀ l o r p,F (l,o,r)=true->P (.Compare l o r p)):P x:=by
 k_extra"c4";refine d4 (Dc e1) λc Ja=>?_;subst Ja
 exact k _ _ _ _ hf
theorem wM{F:_->Bool}{P:Expr->Prop}(h:e7 (G4 x) F=true)(k:∀ l k p,F l=true->P (.Tuple l k p)):P x:=by
 refine a7 (i7 h) λl0 e1 hf=>?_;clear h
 refine j7 (Y4 e1) λq c Ja=>?_;subst Ja
 exact k _ _ _ hf
theorem Ti{F:_->Bool}{P:Expr->Prop}(h:e7 (W8 x) F=true)(k:∀ l p,F l=true->P (.List l p)):P x:=by
 refine a7 (i7 h) λl0 e1 hf=>?_;clear h
 refine d4 (vG e1) λc Ja=>?_;subst Ja
 exact k _ _ hf
theorem Y2{F:_->Bool}{P:Expr->Prop}(h:e7 (L6 x) F=true)(k:∀ a b p,F (a,b)=true->P (.Subscript a b p)):P x:=by
 obtain⟨⟨a0,b0⟩,e1,hf⟩:=i7 h;clear h;refine d4 (bt2 e1) λc Ja=>?_;subst Ja
 exact k _ _ _ hf
theorem T6{F:_->Bool}{P:Expr->Prop}(h:e7 (A5 x) F=true)(k:∀ f as ks p,F (f,as,ks,p)=true->P (.Call f as ks p)):P x:=by
 obtain⟨⟨w,q,u,c⟩,E,hf⟩:=i7 h;clear h;obtain rfl:=Bt E;exact k _ _ _ _ hf
theorem H6{F:_->Bool}{P:Expr->Prop}(h:e7 (E1 x) F=true)(k:∀ o n p,F (o,n,p)=true->P (.Attribute o n p)):P x:=by
 obtain⟨⟨q,u,c⟩,E,hf⟩:=i7 h;clear h;obtain rfl:=bW8 E;exact k _ _ _ hf
theorem Gz{F:_->Bool}{P:Expr->Prop}(h:e7 (tH x) F=true)(k:∀ e l s p,F (e,l,s)=true->P (.ListComp e l s p)):P x:=by
 obtain⟨⟨q,u,w⟩,E,hf⟩:=i7 h;clear h;refine d4 (RT E) λc Ja=>?_;subst Ja
 exact k _ _ _ _ hf
theorem Ld{F:_->Bool}{P:Stmt->Prop}(h:e7 (tX x) F=true)(k:∀ t a b p,F (t,a,b)=true->P (.If t a b p)):P x:=by
 obtain⟨⟨u,Ma,q⟩,E,hf⟩:=i7 h;clear h;refine d4 (Xx E) λc Ja=>?_;subst Ja
 exact k _ _ _ _ hf
theorem T3{F:_->Bool}{P:Stmt->Prop}(h:e7 (pH x) F=true)(k:∀ t e p,F (t,e,p)=true->P (.Assign t e p)):P x:=by
 obtain⟨⟨u,q,c⟩,E,hf⟩:=i7 h;clear h;obtain rfl:=Zf E;exact k _ _ _ hf
theorem Jh{F:_->Bool}{P:Stmt->Prop}(h:e7 (vd x) F=true)(k:∀ t p,F t=true->P (.Return t p)):P x:=by
 refine a7 (i7 h) λq E T=>?_;clear h
 refine d4 (bc1 E) λc Ja=>?_;subst Ja
 exact k _ _ T
theorem ZL{F:_->Bool}{P:Stmt->Prop}(h:e7 (um x) F=true)(k:∀ e p,F e=true->P (.Expr e p)):P x:=by
 refine a7 (i7 h) λq E T=>?_;clear h
 refine d4 (cg3 E) λc Ja=>?_;subst Ja
 exact k _ _ T
theorem uU{F:_->Bool}{P:Stmt->Prop}(h:e7 (qY x) F=true)(k:∀ t i b o p,F (t,i,b,o)=true->P (.For t i b o p)):P x:=by
 obtain⟨⟨y,u,q,w⟩,E,T⟩:=i7 h;clear h;refine d4 (Yp E) λc Ja=>?_;subst Ja
 exact k _ _ _ _ _ T
theorem Rx{F:_->Bool}{P:Stmt->Prop}(h:e7 (tL x) F=true)(k:∀ t b o p,F (t,b,o)=true->P (.While t b o p)):P x:=by
 obtain⟨⟨w,q,u⟩,E,hf⟩:=i7 h;clear h;refine d4 (cy5 E) λc Ja=>?_;subst Ja
 exact k _ _ _ _ hf
theorem Ol{F:_->Bool}{P:Stmt->Prop}(h:e7 (sp x).aL F=true)(k:∀ a b p,F (a,b)=true->P (.Raise a b p)):P x:=by
 obtain⟨⟨a0,b0⟩,e1,hf⟩:=i7 h;clear h;refine d4 ((G6 x).aL _ e1) λc Ja=>?_;subst Ja
 exact k _ _ _ hf
theorem VJ{F:_->Bool}{P:Stmt->Prop}(h:e7 (sp x).tri F=true)(k:∀ a b c d p,F (a,b,c,d)=true->P (.Try a b c d p)):P x:=by
 obtain⟨⟨Ma,q,u,w⟩,E,T⟩:=i7 h;clear h;refine d4 ((G6 x).tri _ E) λy Ja=>?_;subst Ja
 exact k _ _ _ _ _ T
noncomputable def sV(h:ExceptHandler):Option Expr×Option Str×List Stmt:=match h with
 | .ExceptHandler t n b _=>(t,n,b)
noncomputable def hNm(sc:Scope)(vs:List Str):Option Nat->Option Str->Bool
 | none,none=>true
 | some i,some x=>decide (vs[i]?=some x)&&decide (sc.names.lookup x=some .local)
 | _,_=>false
def K2(vs:List Str)(i:Nat)(x:Expr):Bool:=e7 (s0 x) λn=>decide (vs[i]?=some n)
noncomputable def X3(vs:List Str):List Nat->List Expr->Bool
 | [],l=>l.isEmpty
 | i::X,l=>match l with
  | x::l=>K2 vs i x&&X3 vs X l
  | []=>false
abbrev Lo:=List (Option V)
abbrev VP:=V->Hp->Prop
abbrev BP:=Bool->Hp->Prop
abbrev XP:=Str->Hp->Prop
variable{XX:XP}
structure Cx where
 g:G
 d:Nat
 Q:j5
 X:n9
variable{cx:Cx}
abbrev KT:=Cx->List V->Lo->Hp->Prop
def ps(K:KT)(c:Cx)(s:List V)(J:Lo):VP:=λv H=>K c (v::s) J H
def xC(c:Cx)(J:Lo):XP:=λx H=>c.X x J H
def nx(K:KT)(c:Cx)(s:List V):j5:=λf q H=>match f with
 | .next=>K c s q H
 | f=>c.Q f q H
noncomputable def Cx.wQ(c:Cx)(Q:j5):Cx:=⟨c.g,c.d,Q,c.X⟩
def l7:KT:=λc N q H=>c.Q .next q H
def Ds:KT:=λc N q H=>c.Q .brk q H
def F6:n9:=λN N N=>False
inductive Req(P K:Prop):Prop
 | mk (p:P) (k:K):Req P K
inductive Look(M:Hp)(a:Addr)(K:List V->Prop):Prop
 | mk (l:List V) (h:M a=some (.L l)) (k:K l):Look M a K
inductive LookR(g:G)(M:Hp)(a:Addr)(K:List V->Prop):Prop
 | mk (l:List V) (h:M a=some (.L l)) (k:K l):LookR g M a K
 | scr (ns:List Int) (h:Scr g a ns) (k:K (ns.map .int)):LookR g M a K
inductive Own:Hp->Addr->(Hp->List V->Prop)->Prop
 | top {M:Hp} {a:Addr} {l:List V} {K:Hp->List V->Prop} (k:K M l):Own (upd M a (.L l)) a K
 | mk {M:Hp} {a:Addr} {K:Hp->List V->Prop} (l:List V) (h:M a=some (.L l)) (k:K M l):Own M a K
inductive LookI(M:Hp)(a:Addr)(K:List (Int×V)->Prop):Prop
 | mk (l:List (Int×V)) (h:M a=some (.di l)) (k:K l):LookI M a K
inductive LookS(M:Hp)(a:Addr)(K:List (Str×V)->Prop):Prop
 | mk (l:List (Str×V)) (h:M a=some (.ds l)) (k:K l):LookS M a K
inductive OwnI:Hp->Addr->(Hp->List (Int×V)->Prop)->Prop
 | top {M:Hp} {a:Addr} {l:List (Int×V)} {K:Hp->List (Int×V)->Prop} (k:K M l):OwnI (upd M a (.di l)) a K
 | mk {M:Hp} {a:Addr} {K:Hp->List (Int×V)->Prop} (l:List (Int×V)) (h:M a=some (.di l)) (k:K M l):OwnI M a K
inductive OwnS:Hp->Addr->(Hp->List (Str×V)->Prop)->Prop
 | top {M:Hp} {a:Addr} {l:List (Str×V)} {K:Hp->List (Str×V)->Prop} (k:K M l):OwnS (upd M a (.ds l)) a K
 | mk {M:Hp} {a:Addr} {K:Hp->List (Str×V)->Prop} (l:List (Str×V)) (h:M a=some (.ds l)) (k:K M l):OwnS M a K
inductive LookX(M:Hp)(a:Addr)(K:Str->Prop):Prop
 | mk (x:Str) (h:M a=some (.ex x)) (k:K x):LookX M a K
inductive Hit(x:Str)(ys ns:List Str)(A B:Prop):Prop
 | yes (h:ys.contains x=true) (a:A):Hit x ys ns A B
 | no (h:ns.contains x=true) (b:B):Hit x ys ns A B
inductive HitB(x:Str)(ys ns:List Str)(K:Bool->Prop):Prop
 | mk (b:Bool) (h1:b=true->ys.contains x=true) (h2:b=false->ns.contains x=true) (k:K b):HitB x ys ns K
inductive DAt(o:Option V)(K:V->Prop):Prop
 | mk (v:V) (h:o=some v) (k:K v):DAt o K
inductive Stop(P:Prop):Prop
 | mk (p:P):Stop P
inductive Pick(l:List V)(n:Int)(K:V->Prop):Prop
 | mk (h0:0<=n) (h1:n<l.length) (k:∀ x,l[n.toNat]?=some x->K x):Pick l n K
inductive Idx(l:List V)(k:Int)(K:V->Prop):Prop
 | mk (h0:0<=k) (h1:k<l.length) (hz:k<2 ^ 63) (h:∀ x,l[k.toNat]?=some x->K x):Idx l k K
inductive IdxS(x:Str)(k:Int)(K:V->Prop):Prop
 | mk (h0:0<=k) (h1:k<x.length) (hz:k<2 ^ 63) (h:∀ c,x.cps[k.toNat]?=some c->K (.str ⟨#[c]⟩)):IdxS x k K
inductive DGet(D:List (Str×Int))(s:Str)(K:V->Prop):Prop
 | none (e:D.lookup s=Option.none) (k:K .none):DGet D s K
 | some (i:Int) (e:D.lookup s=Option.some i) (k:K (.int i)):DGet D s K
inductive SSet(M:Hp)(a:Addr)(Q:VP):Prop
 | mk (l:List Int) (h:M a=some (.L (l.map .int))) (h64:l.length<64) (k:∀ b (L:List Int),M b=none->L.length<=l.length->(∀ y,y∈L↔y∈l)->Q (.ref b) (upd M b (.L (L.map .int)))):SSet M a Q
inductive AllB(M:Hp)(a:Addr)(Q:VP):Prop
 | mk (bs:List Bool) (h:M a=some (.L (bs.map .bool))) (k:Q (.bool (bs.all id)) M):AllB M a Q
inductive SumL(M:Hp)(a:Addr)(Q:VP):Prop
 | mk (ns:List Int) (h:M a=some (.L (ns.map .int))) (k:Q (.int ns.sum) M):SumL M a Q
inductive DOf(M:Hp)(a:Addr)(Q:VP):Prop
 | mk (ps:List (Str×V)) (h:M a=some (.L (ps.map F7))) (hn:(ps.map (·.1)).Nodup) (hz:ps.length<=10000) (k:∀ b,M b=none->Q (.ref b) (upd M b (.ds ps))):DOf M a Q
inductive InL(n:Bool)(d:Nat)(l:List V)(x:V)(M:Hp)(Q:VP):Prop
 | ofStrs (ss:List Str) (y:Str) (hx:x=.str y) (hl:l=ss.map .str) (k:Q (.bool (n ^^ ss.any (· == y))) M):InL n d l x M Q
 | mk (hl:aq l=true) (hx:flat x=true) (hu:min (aF l) (dep x)+1<=8*d) (k:Q (.bool (n ^^ (g7 l).any λy=>PyData.eqv y (dat x))) M):InL n d l x M Q
inductive EqL(n:Bool)(d:Nat)(l k:List V)(M:Hp)(Q:VP):Prop
 | mk (hl:aq l=true) (hk:aq k=true) (hu:min (aF l) (aF k)+1<=8*d) (h:Q (.bool (n ^^ PyData.eqvAll (g7 l) (g7 k))) M):EqL n d l k M Q
inductive EqT(n:Bool)(d:Nat)(l k:List V)(M:Hp)(Q:VP):Prop
 | nil (hk:k=[]) (hn:n=false) (hd:0<d) (h:Q (.bool (l.length==0)) M):EqT n d l k M Q
 | mk (hl:aq l=true) (hk:aq k=true) (hu:min (aF l) (aF k)+1<=8*d) (h:Q (.bool (n ^^ PyData.eqvAll (g7 l) (g7 k))) M):EqT n d l k M Q
 | refs (a b a' b':Addr) (x y:List V) (el:l=[.ref a,.ref b]) (ek:k=[.ref a',.ref b']) (ha:M a=some (.L x)) (hb:M b=some (.L y)) (ha':M a'=some (.L x)) (hb':M b'=some (.L y)) (fx:aq x=true) (fy:aq y=true) (dx:aF x+2<=8*d) (dy:aF y+2<=8*d) (hn:n=true) (h:Q (.bool false) M):EqT n d l k M Q
inductive InR(n:Bool)(d:Nat)(M:Hp)(a:Addr)(x:V)(Q:VP):Prop
 | l (h:Look M a λl=>InL n d l x M Q):InR n d M a x Q
 | i (k:Int) (e:x=.int k) (h:LookI M a λl=>Q (.bool (n ^^ (i9 l k).isSome)) M):InR n d M a x Q
 | s (k:Str) (e:x=.str k) (h:LookS M a λl=>Q (.bool (n ^^ (i9 l k).isSome)) M):InR n d M a x Q
inductive ItR(g:G)(M:Hp)(a:Addr)(k:Int)(Q:VP):Prop
 | l (h:LookR g M a λl=>Idx l k λx=>Q x M):ItR g M a k Q
 | d (h:LookI M a λl=>DAt (i9 l k) λx=>Q x M):ItR g M a k Q
inductive PtR(M:Hp)(a:Addr)(k:Int)(v:V)(K:Hp->Prop):Prop
 | l (h:Own M a λM l=>Req (0<=k/\k<l.length/\l.length<=10000) (K (upd M a (.L (l.set k.toNat v))))):PtR M a k v K
 | d (h:OwnI M a λM l=>Req (l.length<=10000) (K (upd M a (.di (x7 l k v))))):PtR M a k v K
def New(M:Hp)(K:Addr->Prop):Prop:=∀ a,M a=none->K a
def Ite(b:Bool)(A B:Prop):Prop:=(b=true->A)/\(b=false->B)
inductive TY where
 | int | bool | str | tuple | list
noncomputable def TY.nm:TY->String
 | .int=>"int"
 | .bool=>"bool"
 | .str=>"str"
 | .tuple=>"tuple"
 | .list=>"list"
def oAt:Option V->(V->Prop)->Prop
 | some v,K=>K v
 | none,_=>False
def vAt:Lo->Nat->(V->Prop)->Prop
 | x::_,0,K=>oAt x K
 | _::l,n+1,K=>vAt l n K
 | [],_,_=>False
def lAt:List V->Nat->(V->Prop)->Prop
 | x::_,0,K=>K x
 | _::l,n+1,K=>lAt l n K
 | [],_,_=>False
def W7:List V->(List Str->Prop)->Prop
 | [],K=>K []
 | .str x::l,K=>W7 l λc=>K (x::c)
 | _,_=>False
def tZ:V->(Option Int->Prop)->Prop
 | .none,K=>K none
 | .int i,K=>K (some i)
 | _,_=>False
def BW:V->V->Hp->VP->Prop
 | .int a,.int b,H,Q=>Q (.int (a+b)) H
 | .str x,.str y,H,Q=>Req (x.length+y.length<=10000) (Q (.str (x++y)) H)
 | .tup l,.tup k,H,Q=>Req (l.length+k.length<=10000) (Q (.tup (l++k)) H)
 | .ref a,.ref b,H,Q=>Look H a λl=>Look H b λk=>Req (l.length+k.length<=10000) (New H λc=>Q (.ref c) (upd H c (.L (l++k))))
 | _,_,_,_=>False
def Bc:V->V->Hp->VP->Prop
 | .int a,.int b,H,Q=>Req (s5 a∨s5 b) (Q (.int (a*b)) H)
 | .ref a,.int n,H,Q=>Look H a λl=>Req (0<=n/\l.length*n.toNat<=10000/\n<=10000) (New H λb=>Q (.ref b) (upd H b (.L (bY n.toNat l).flatten)))
 | _,_,_,_=>False
def A9(P:Int->Int->Prop):V->V->Prop
 | .int a,.int b=>P a b
 | _,_=>False
def Hr(op:Operator)(x y:V)(M:Hp)(Q:VP):Prop:=match op with
 | .Add=>BW x y M Q
 | .Sub=>A9 (λa b=>Q (.int (a-b)) M) x y
 | .Mult=>Bc x y M Q
 | .Mod=>A9 (λa b=>Req (0<b) (Q (.int (a%b)) M)) x y
 | .FloorDiv=>A9 (λa b=>Req (0<b/\b<2 ^ 64) (Q (.int (a / b)) M)) x y
 | _=>False
def JL(n:Bool)(M:Hp)(Q:VP)(y:Str):V->Prop
 | .str x=>match n with
  | true=>Q (.bool (!Txt.contains y x)) M
  | false=>Q (.bool (Txt.contains y x)) M
 | _=>False
def cz8(n:Bool)(M:Hp)(Q:VP)(l:List V):V->Prop
 | .str x=>match n with
  | true=>False
  | false=>W7 l λc=>Q (.bool (c.any (· == x))) M
 | _=>False
def wIn(n:Bool)(d:Nat)(M:Hp)(Q:VP)(x:V):V->Prop
 | .str y=>JL n M Q y x
 | .tup l=>cz8 n M Q l x
 | .ref a=>InR n d M a x Q
 | _=>False
def wEq(d:Nat)(M:Hp)(Q:VP):V->V->Prop
 | .int a,.int b=>Q (.bool (a==b)) M
 | .str a,.str b=>Q (.bool (a==b)) M
 | .bool a,.bool b=>Q (.bool (a==b)) M
 | .none,.int _=>Q (.bool false) M
 | .tup l,.tup k=>EqT false d l k M Q
 | .ref a,.ref b=>Look M a λl=>Look M b λk=>EqL false d l k M Q
 | _,_=>False
def wNe(d:Nat)(M:Hp)(Q:VP):V->V->Prop
 | .int a,.int b=>Q (.bool (a != b)) M
 | .str a,.str b=>Q (.bool (a != b)) M
 | .bool a,.bool b=>Q (.bool (a != b)) M
 | .none,.int _=>Q (.bool true) M
 | .tup l,.tup k=>EqT true d l k M Q
 | .ref a,.ref b=>Look M a λl=>Look M b λk=>EqL true d l k M Q
 | _,_=>False
def K1(d:Nat)(op:CmpOp)(x y:V)(M:Hp)(Q:VP):Prop:=match op with
 | .Lt=>A9 (λa b=>Q (.bool (decide (a<b))) M) x y
 | .LtE=>A9 (λa b=>Q (.bool (decide (a<=b))) M) x y
 | .Gt=>A9 (λa b=>Q (.bool (decide (a > b))) M) x y
 | .GtE=>A9 (λa b=>Q (.bool (decide (a≥b))) M) x y
 | .Eq=>wEq d M Q x y
 | .NotEq=>wNe d M Q x y
 | .In=>wIn false d M Q x y
 | .NotIn=>wIn true d M Q x y
 | _=>False
def V2:V->Hp->BP->Prop
 | .bool b,H,Q=>Q b H
 | .int i,H,Q=>Q (i != 0) H
 | _,_,_=>False
def zM(g:G):V->V->Hp->VP->Prop
 | .tup l,.int k,H,Q=>Idx l k λx=>Q x H
 | .str x,.int k,H,Q=>IdxS x k λx=>Q x H
 | .ref a,.int k,H,Q=>ItR g H a k Q
 | .ref a,.str k,H,Q=>LookS H a λl=>DAt (i9 l k) λx=>Q x H
 | _,_,_,_=>False
def xH(M:Hp)(a:Addr)(v:V)(K:Hp->Prop):V->Prop
 | .int k=>PtR M a k v K
 | .str k=>OwnS M a λM l=>Req (l.length<=10000) (K (upd M a (.ds (x7 l k v))))
 | _=>False
def Ho(g:G)(n:Nat):V->Hp->VP->Prop
 | .tup l,H,Q=>lAt l n λx=>Q x H
 | .ref a,H,Q=>LookR g H a λl=>lAt l n λx=>Q x H
 | _,_,_=>False
def zL(l:List V):V->Hp->VP->Prop
 | .int n,H,Q=>Pick l n λx=>Q x H
 | _,_,_=>False
def FJ(y c:Option Int):V->Hp->VP->Prop
 | .tup l,H,Q=>Req (l.length<=10000) (Q (.tup (slc y c l)) H)
 | .str x,H,Q=>Req (x.length<=10000) (Q (.str (sls y c x)) H)
 | .ref a,H,Q=>Look H a λl=>Req (l.length<=10000) (New H λb=>Q (.ref b) (upd H b (.L (slc y c l))))
 | _,_,_=>False
def yG(t:TY):V->Hp->VP->Prop
 | .none,M,Q=>Q (.bool false) M
 | .bool _,M,Q=>match t with
  | .int=>Q (.bool true) M
  | .bool=>Q (.bool true) M
  | _=>Q (.bool false) M
 | .int _,M,Q=>match t with
  | .int=>Q (.bool true) M
  | _=>Q (.bool false) M
 | .str _,M,Q=>match t with
  | .str=>Q (.bool true) M
  | _=>Q (.bool false) M
 | .tup _,M,Q=>match t with
  | .tuple=>Q (.bool true) M
  | _=>Q (.bool false) M
 | .ref a,M,Q=>Look M a λz_=>match t with
  | .list=>Q (.bool true) M
  | _=>Q (.bool false) M
def Gj(g:G)(Q:VP)(M:Hp):V->Prop
 | .tup l=>Req (l.length<=10000) (Q (.int l.length) M)
 | .str x=>Req (x.length<=10000) (Q (.int x.length) M)
 | .ref a=>LookR g M a λl=>Req (l.length<=10000) (Q (.int l.length) M)
 | _=>False
def zm(Q:VP)(M:Hp):V->Prop
 | .tup l=>Q (.tup l) M
 | .ref a=>Look M a λl=>Req (l.length<=10000) (Q (.tup l) M)
 | _=>False
def BL(Q:VP)(M:Hp):V->Prop
 | .tup l=>Req (l.length<=10000) (New M λb=>Q (.ref b) (upd M b (.L l)))
 | .ref a=>Look M a λl=>Req (l.length<=10000) (New M λb=>Q (.ref b) (upd M b (.L l)))
 | _=>False
def m5(P:Addr->Prop):V->Prop
 | .ref a=>P a
 | _=>False
def HR(P:Bool->Prop):V->Prop
 | .bool a=>P a
 | _=>False
def K5(P:Str->Prop):V->Prop
 | .str a=>P a
 | _=>False
def D9(P:Int->Prop):V->Prop
 | .int a=>P a
 | _=>False
def un(P:V->Prop):List V->Prop
 | [x]=>P x
 | _=>False
def duo(P:V->V->Prop):List V->Prop
 | [x,y]=>P x y
 | _=>False
def zF(M:Hp)(Q:VP):List V->Prop
 | [x,y]=>A9 (λa b=>Q (.int (min a b)) M) x y
 | _=>False
noncomputable def b2i(b:Bool):Int:=bif b then 1 else 0
def bv3(M:Hp)(Q:VP):V->Prop
 | .tup _=>Q (.bool true) M
 | .ref a=>Look M a λz_=>Q (.bool true) M
 | _=>False
def wIt(Q:List V->(Hp->Prop)->Hp->Prop)(M:Hp):V->Prop
 | .tup L=>Q L (λz_=>True) M
 | .str x=>Q (I7 x) (λz_=>True) M
 | .ref a=>Look M a λL=>Q L (λM=>M a=some (.L L)) M
 | _=>False
def R5:List Nat->List V->Lo->(Lo->Prop)->Prop
 | [],[],c,K=>K c
 | i::X,v::q,c,K=>R5 X q (c.set i (some v)) K
 | _,_,_,_=>False
def wL(P:List V->Prop):V->Prop
 | .tup a=>P a
 | _=>False
def C8:Nat->List V->List V->(List V->List V->Prop)->Prop
 | 0,l,s,k=>k l s
 | n+1,l,x::s,k=>C8 n (x::l) s k
 | _+1,_,[],_=>False
theorem bB5{s:List V}:∀ (r A:List V),C8 r.length A (r++s) k->k (r.reverseAux A) s:=by
 intro r;induction r with
 | nil=>exact λA h=>h
 | cons x r c=>exact λA h=>c (x::A) h
theorem D7{s:List V}(e:l.length=n)(h:C8 n [] (l.reverseAux s) k):k l s:=by
 have q:=bB5 (k:=k) (s:=s) l.reverse [] (by rw[jW,e,<- List.reverseAux_eq];exact h)
 rw[List.reverseAux_eq,List.reverse_reverse,dC] at q;exact q
def s1(f:V->List V->Prop):List V->Prop
 | x::s=>f x s
 | _=>False
def s2(f:V->V->List V->Prop):List V->Prop
 | y::x::s=>f x y s
 | _=>False
def s3(f:V->V->V->List V->Prop):List V->Prop
 | z::y::x::s=>f x y z s
 | _=>False
structure IE where
 ck:Tab->Scope->List Str->Expr->Bool
 w:Bool->KT->KT
 ok:∀ {T q c sc vs x K s J M},TabOK c.g T->ck T sc vs x=true->w q K c s J M->Ev c.g ⟨sc,vs,c.d,q⟩ x J M (ps K c s J) (xC c J)
structure IO where
 ck:Tab->Scope->List Str->Option Expr->Bool
 w:Bool->KT->KT
 ok:∀ {T q c sc vs x K s J M},TabOK c.g T->ck T sc vs x=true->w q K c s J M->EvO c.g ⟨sc,vs,c.d,q⟩ x J M (ps K c s J) (xC c J)
structure IEs where
 n:Nat
 ck:Tab->Scope->List Str->List Expr->Bool
 w:Bool->KT->KT
 st:∀ {T sc vs l},ck T sc vs l=true->∀ env pos,(backTo pos (pg l env)).any (·.1)=false
 len:∀ {T sc vs l},ck T sc vs l=true->l.length=n
 ok:∀ {T q c sc vs x K s J M},TabOK c.g T->ck T sc vs x=true->w q K c s J M->Evs c.g ⟨sc,vs,c.d,q⟩ x J M (λl M=>l.length=n/\K c (l.reverseAux s) J M) (xC c J)
structure IT where
 ck:Tab->Scope->List Str->Expr->Bool
 w:Bool->KT->KT->KT
 ok:∀ {T q c sc vs x A B s J M},TabOK c.g T->ck T sc vs x=true->w q A B c s J M->Tst c.g ⟨sc,vs,c.d,q⟩ x J M (λb M=>Ite b (A c s J M) (B c s J M)) (xC c J)
structure II where
 ck:Tab->Scope->List Str->Expr->Bool
 w:Bool->(List V->(Hp->Prop)->KT)->KT
 ok:∀ {T q c sc vs x Ma s J M},TabOK c.g T->ck T sc vs x=true->w q Ma c s J M->Itr c.g ⟨sc,vs,c.d,q⟩ x J M (λL P M=>Ma L P c s J M) (xC c J)
section
variable{g:G}{vs:List Str}{d:Nat}{q:Bool}{J:Lo}{Q:VP}{QB:BP}{X:XP}
theorem v6(h:n<=10000):n<=sizeLine:=bN h (by decide)
theorem Kl(h:BW x y M Q):pC g F (binaryOp .Add) x y J M Q X:=by
 cases x with
 | int a=>cases y with
  | int b=>exact bc3 h
  | _=>exact h.elim
 | str a=>cases y with
  | str b=>obtain⟨p,k⟩:=h;exact ZD p k
  | _=>exact h.elim
 | tup a=>cases y with
  | tup b=>obtain⟨p,k⟩:=h;exact bH9 (v6 p) k
  | _=>exact h.elim
 | ref a=>cases y with
  | ref b=>obtain⟨l,Z,k,S,p,r⟩:=h;exact LR Z S (v6 p) r
  | _=>exact h.elim
 | _=>exact h.elim
theorem Ze(h:Bc x y M Q):pC g F (binaryOp .Mult) x y J M Q X:=by
 cases x with
 | int a=>cases y with
  | int b=>
   obtain⟨p,k⟩:=h;rcases p with p | p
   ·exact Np p.1 p.2 k
   ·exact Sg p.1 p.2 k
  | _=>exact h.elim
 | ref a=>cases y with
  | int b=>obtain⟨l,Z,p,r⟩:=h;exact Ux Z p.1 p.2.1 p.2.2 r
  | _=>exact h.elim
 | _=>exact h.elim
theorem E3(h:A9 P x y):∃ a b,x=.int a/\y=.int b/\P a b:=by
 cases x with
 | int a=>cases y with
  | int b=>exact⟨a,b,rfl,rfl,h⟩
  | _=>exact h.elim
 | _=>exact h.elim
theorem N6(h:D9 P x):∃ a,x=.int a/\P a:=by
 cases x with
 | int a=>exact⟨a,rfl,h⟩
 | _=>exact h.elim
theorem s9(h:m5 P x):∃ a,x=.ref a/\P a:=by
 cases x with
 | ref a=>exact⟨a,rfl,h⟩
 | _=>exact h.elim
theorem wV(h:K5 P x):∃ a,x=.str a/\P a:=by
 cases x with
 | str a=>exact⟨a,rfl,h⟩
 | _=>exact h.elim
theorem Zz(h:HR P x):∃ a,x=.bool a/\P a:=by
 cases x with
 | bool a=>exact⟨a,rfl,h⟩
 | _=>exact h.elim
theorem Fq(h:wL P x):∃ a,x=.tup a/\P a:=by
 cases x with
 | tup a=>exact⟨a,rfl,h⟩
 | _=>exact h.elim
theorem E7(h:un P x):∃ a,x=[a]/\P a:=by
 cases x with
 | nil=>exact h.elim
 | cons a l=>cases l with
  | nil=>exact⟨a,rfl,h⟩
  | cons _ _=>exact h.elim
theorem bJ5(h:duo P x):∃ a b,x=[a,b]/\P a b:=by
 cases x with
 | nil=>exact h.elim
 | cons a l=>cases l with
  | nil=>exact h.elim
  | cons b l=>cases l with
   | nil=>exact⟨a,b,rfl,h⟩
   | cons _ _=>exact h.elim
theorem Bg(h:tZ x P):∃ k,OptInt x k/\P k:=by
 cases x with
 | none=>exact⟨_,.none,h⟩
 | int i=>exact⟨_,.int i,h⟩
 | _=>exact h.elim
theorem yp:∀ {P:List Str->Prop},W7 l P->∃ c,l=c.map .str/\P c:=by
 induction l with
 | nil=>intro P h;exact⟨[],rfl,h⟩
 | cons x l ih=>
  intro P h;cases x with
  | str x=>
   exact a7 (ih h) λc e k=>⟨x::c,by rw[e];rfl,k⟩
  | _=>exact h.elim
theorem yC:∀ {i:Nat} {P:V->Prop},vAt l i P->∃ v,l[i]?=some (some v)/\P v:=by
 induction l with
 | nil=>intro i P h;cases i<;>exact h.elim
 | cons x l ih=>
  intro i P h;cases i with
  | zero=>cases x with
   | none=>exact h.elim
   | some v=>exact⟨v,rfl,h⟩
  | succ i=>exact ih h
theorem vh:∀ {i:Nat} {P:V->Prop},lAt l i P->∃ v,l[i]?=some v/\P v:=by
 induction l with
 | nil=>intro i P h;cases i<;>exact h.elim
 | cons x l ih=>
  intro i P h;cases i with
  | zero=>exact⟨x,rfl,h⟩
  | succ i=>exact ih h
theorem cw1(h:Hr op x y M Q):pC g F (binaryOp op) x y J M Q X:=by
 cases op with
 | Add=>exact Kl h
 | Mult=>exact Ze h
 | Sub=>refine g6 (E3 h) λa b Ja c k=>?_;subst Ja;subst c;exact Qw k
 | Mod=>obtain⟨a,b,rfl,rfl,p,k⟩:=E3 h;exact bQ2 p k
 | FloorDiv=>obtain⟨a,b,rfl,rfl,p,k⟩:=E3 h;exact Iv p.1 p.2 k
 | _=>exact h.elim
theorem by6(h:Look M a λl=>InL n F.d l x M Q):pC g F (compareOp (bif n then .NotIn else .In)) x (.ref a) J M Q X:=by
 obtain⟨l,e,k⟩:=h;cases k with
 | ofStrs u y U hl k=>
  subst U hl;cases n with
  | true=>exact bt8 e (by rw[iY] at k;exact k)
  | false=>exact An e (by rw[iQ] at k;exact k)
 | mk hl U c k=>
  cases n with
  | true=>exact bO5 e hl U c (by rw[iY] at k;exact k)
  | false=>exact aZ3 e hl U c (by rw[iQ] at k;exact k)
theorem yO{K:Type}[DecidableEq K](D:Kd g K){k:K}{l:List (K×V)}(e:M a=some (D.ob l))(h:Q (.bool (n ^^ (i9 l k).isSome)) M):pC g F (compareOp (bif n then .NotIn else .In)) (D.key k) (.ref a) J M Q X:=by
 cases n with
 | true=>exact bs0 D e (by rw[iY] at h;exact h)
 | false=>exact cy9 D e (by rw[iQ] at h;exact h)
theorem Bv(h:wIn n F.d M Q x y):pC g F (compareOp (bif n then .NotIn else .In)) x y J M Q X:=by
 cases y with
 | ref a=>cases h with
  | l h=>exact by6 h
  | i k e h=>subst e;obtain⟨l,e,h⟩:=h;exact yO (kdI g) e h
  | s k e h=>subst e;obtain⟨l,e,h⟩:=h;exact yO (kdS g) e h
 | str y=>cases x with
  | str x=>cases n with
   | true=>exact bt0 h
   | false=>exact ZZ h
  | _=>exact h.elim
 | tup l=>cases x with
  | str x=>cases n with
   | true=>exact h.elim
   | false=>refine a7 (yp h) λc e k=>?_;exact Lb e k
  | _=>exact h.elim
 | _=>exact h.elim
theorem TQ(Ma:M a=some (.L x))(Y:M b=some (.L y))(u:M H=some (.L x))(U:M Ja=some (.L y))(K:aq x=true)(L:aq y=true)(O:aF x+2<=8*F.d)(S:aF y+2<=8*F.d)(h:Q (.bool false) M):pC g F (compareOp .NotEq) (.tup [.ref a,.ref b]) (.tup [.ref H,.ref Ja]) J M Q X:=λA R s v w I rv E=>by
 have D:∀ {a b:Addr} {v:Value},M a=some (.L x)->M b=some (.L y)->Rep s.heap v (.tup [.ref a,.ref b])->∃ C,Reads s.heap v (.tuple [.list (g7 x),.list (g7 y)]) C:=fun{a b v} Ma Y r=>by
  refine k9 r.az λc vs n qa Z r2=>?_;subst qa
  refine g6 r2.two λu1 u2 e r1 r3=>?_
  obtain rfl:=r1.aa;obtain rfl:=r3.aa;have z:∃ C,ReadsAll s.heap vs.toList [.list (g7 x),.list (g7 y)] C:=by rw[e];exact⟨_,.cons (I8 I Ma K) (.cons (I8 I Y L) .nil)⟩
  exact d4 z λC z=>⟨_,.tuple Z rfl rfl z⟩
 refine d4 (D Ma Y rv) λC r1=>d4 (D u U E) λbs r2=>?_
 have P:PyData.canLayAll0 [.list (g7 x),.list (g7 y)]=true:=by
  show(PyData.canLayAll0 (g7 x)&&(PyData.canLayAll0 (g7 y)&&true))=true;rw[E8 K,E8 L];rfl
 have T:PyData.depthAll [.list (g7 x),.list (g7 y)]+1<=8*F.d:=by
  show max (PyData.depthAll (g7 x)+1) (max (PyData.depthAll (g7 y)+1) 0)+1<=_;unfold aF at O S;lia
 refine SeqAt.compareNe_reads r1 r2 P P (show A.units+min (PyData.depthAll [.list (g7 x),.list (g7 y)]+1) (PyData.depthAll [.list (g7 x),.list (g7 y)]+1)<cLine by rw[oK];exact dq (fG T _) I.units) (n6 I ?_)
 have e:PyData.eqv (.tuple [.list (g7 x),.list (g7 y)]) (.tuple [.list (g7 x),.list (g7 y)])=true:=SeqAt.eqvAll_refl _ P;rw[e];exact h
theorem bT3(h:EqT false F.d l k M Q):pC g F (compareOp .Eq) (.tup l) (.tup k) J M Q X:=by
 cases h with
 | nil K c w h=>subst K;exact bZ7 w h
 | refs a b C D x y el T Ma Y u U I Ja E H c h=>cases c
 | mk hl K A h=>exact uw hl K (by show min (PyData.depthAll (g7 l)+1) (PyData.depthAll (g7 k)+1)<=_;rw[iI];exact A) (by rw[iQ] at h;exact h)
theorem ci2(h:EqT true F.d l k M Q):pC g F (compareOp .NotEq) (.tup l) (.tup k) J M Q X:=by
 cases h with
 | nil K c Ja h=>cases c
 | refs a b H I x y el T Ma Y u U C D w A c h=>subst el T;exact TQ Ma Y u U C D w A h
 | mk hl K E h=>exact vC hl K (by show min (PyData.depthAll (g7 l)+1) (PyData.depthAll (g7 k)+1)<=_;rw[iI];exact E) (by rw[iY] at h;exact h)
theorem QK(Z:M a=some (.L l))(S:M b=some (.L k))(h:EqL false F.d l k M Q):pC g F (compareOp .Eq) (.ref a) (.ref b) J M Q X:=by
 cases h with
 | mk a b c r=>exact cp0 Z S a b c (by rw[iQ] at r;exact r)
theorem Vr(Z:M a=some (.L l))(S:M b=some (.L k))(h:EqL true F.d l k M Q):pC g F (compareOp .NotEq) (.ref a) (.ref b) J M Q X:=by
 cases h with
 | mk a b c r=>exact Jo Z S a b c (by rw[iY] at r;exact r)
theorem Vm(h:wEq F.d M Q x y):pC g F (compareOp .Eq) x y J M Q X:=by
 cases x with
 | int a=>cases y with
  | int b=>exact Ou h
  | _=>exact h.elim
 | str a=>cases y with
  | str b=>exact eq_str h
  | _=>exact h.elim
 | bool a=>cases y with
  | bool b=>exact TP h
  | _=>exact h.elim
 | none=>cases y with
  | int b=>exact La h
  | _=>exact h.elim
 | tup a=>cases y with
  | tup b=>exact bT3 h
  | _=>exact h.elim
 | ref a=>cases y with
  | ref b=>obtain⟨l,h1,k,h2,r⟩:=h;exact QK h1 h2 r
  | _=>exact h.elim
theorem cp2(h:wNe F.d M Q x y):pC g F (compareOp .NotEq) x y J M Q X:=by
 cases x with
 | int a=>cases y with
  | int b=>exact bi3 h
  | _=>exact h.elim
 | str a=>cases y with
  | str b=>exact ne_str h
  | _=>exact h.elim
 | bool a=>cases y with
  | bool b=>exact Wk h
  | _=>exact h.elim
 | none=>cases y with
  | int b=>exact be3 h
  | _=>exact h.elim
 | tup a=>cases y with
  | tup b=>exact ci2 h
  | _=>exact h.elim
 | ref a=>cases y with
  | ref b=>obtain⟨l,h1,k,h2,r⟩:=h;exact Vr h1 h2 r
  | _=>exact h.elim
theorem P3(h:K1 F.d op x y M Q):pC g F (compareOp op) x y J M Q X:=by
 cases op with
 | Lt=>refine g6 (E3 h) λa b Ja c k=>?_;subst Ja;subst c;exact QF k
 | LtE=>refine g6 (E3 h) λa b Ja c k=>?_;subst Ja;subst c;exact WQ k
 | Gt=>refine g6 (E3 h) λa b Ja c k=>?_;subst Ja;subst c;exact ca4 k
 | GtE=>refine g6 (E3 h) λa b Ja c k=>?_;subst Ja;subst c;exact bE0 k
 | Eq=>exact Vm h
 | NotEq=>exact cp2 h
 | In=>exact Bv (n:=false) h
 | NotIn=>exact Bv (n:=true) h
 | _=>exact h.elim
theorem pY(h:V2 x M QB):Tru g F x J M QB X:=by
 cases x with
 | bool b=>exact Hb h
 | int b=>exact Tw h
 | _=>exact h.elim
theorem bb9(h:zM g x y M Q):Itm g F x y J M Q X:=by
 cases x with
 | tup l=>cases y with
  | int k=>obtain⟨Y,Z,c,r⟩:=h;exact cr2 Y Z c r
  | _=>exact h.elim
 | str x=>cases y with
  | int k=>obtain⟨Y,Z,c,r⟩:=h;exact SQ Y Z c r
  | _=>exact h.elim
 | ref a=>cases y with
  | int k=>
   cases h with
   | d h=>obtain⟨l,e,v,w,r⟩:=h;exact xK (kdI g) e w r
   | l h=>
    cases h with
    | mk l e r=>obtain⟨Y,Z,c,r⟩:=r;exact Jm e Y Z c r
    | scr E e r=>
     obtain⟨Y,Z,c,r⟩:=r;rw[bQ] at Z;have hl:=tO Y Z;exact DP e Y c (bO hl) (r _ (by rw[bW,bO hl];rfl))
  | str k=>obtain⟨l,e,v,w,r⟩:=h;exact xK (kdS g) e w r
  | _=>exact h.elim
 | _=>exact h.elim
theorem Pn(u:n<=10000)(h:Ho g n x M Q):Itm g F x (.int n) J M Q X:=by
 have y:(n:Int)<2 ^ 63:=by exact U4 u
 cases x with
 | tup l=>
  refine a7 (vh h) λv e p=>?_
  exact xU (by exact du _) y (tM (du n) (cJ.mpr ((cj.mp e).1))) e p
 | ref a=>
  cases h with
  | mk l e r=>
   exact a7 (vh r) λv c p=>uI e (du n) y c p
  | scr w e r=>
   refine a7 (vh r) λv c p=>?_
   rw[bW] at c;refine a7 (cL.mp c) λm E C=>?_
   subst C;exact DP e (du n) y E p
 | _=>exact h.elim
theorem J5(h:FJ y c x M Q):Slc g F x y c J M Q X:=by
 cases x with
 | tup l=>obtain⟨p,k⟩:=h;exact Py (v6 p) k
 | str l=>obtain⟨p,k⟩:=h;exact PN p k
 | ref a=>obtain⟨l,e,p,k⟩:=h;exact Ri e (v6 p) k
 | _=>exact h.elim
theorem bm4(h:yG t x M Q):pD g F (λy=>call (.builtin "isinstance") [y,.type t.nm]) x J M Q X:=(λA R s y I r=>by
 cases x with
 | none=>
  obtain rfl:=r.aO;cases t
  ·exact IsiPair.NoneType_int (n5 I h)
  ·exact IsiPair.NoneType_bool (n5 I h)
  ·exact IsiPair.NoneType_str (n5 I h)
  ·exact IsiPair.NoneType_tuple (n5 I h)
  ·exact IsiPair.NoneType_list (n5 I h)
 | bool c=>
  obtain rfl:=r.ofBool;cases t
  ·first | exact IsiPair.bool_int (n6 I h) | exact IsiPair.bool_int (n5 I h)
  ·exact IsiPair.bool_bool (n6 I h)
  ·exact IsiPair.bool_str (n5 I h)
  ·exact IsiPair.bool_tuple (n5 I h)
  ·exact IsiPair.bool_list (n5 I h)
 | int i=>
  refine d4 r.ofInt λu Ja=>?_;subst Ja
  cases t
  ·exact IsiPair.int_int (n6 I h)
  ·exact IsiPair.int_bool (n5 I h)
  ·exact IsiPair.int_str (n5 I h)
  ·exact IsiPair.int_tuple (n5 I h)
  ·exact IsiPair.int_list (n5 I h)
 | str i=>
  refine d4 r.ofStr λu Ja=>?_;subst Ja
  cases t
  ·exact IsiPair.str_int (n5 I h)
  ·exact IsiPair.str_bool (n5 I h)
  ·exact IsiPair.str_str (n6 I h)
  ·exact IsiPair.str_tuple (n5 I h)
  ·exact IsiPair.str_list (n5 I h)
 | tup l=>
  refine k9 r.az λa vs n Ja w N=>?_;subst Ja
  cases t
  ·exact IsiPair.tuple_int w rfl (n5 I h)
  ·exact IsiPair.tuple_bool w rfl (n5 I h)
  ·exact IsiPair.tuple_str w rfl (n5 I h)
  ·exact IsiPair.tuple_tuple w rfl (n6 I h)
  ·exact IsiPair.tuple_list w rfl (n5 I h)
 | ref a=>
  k_extra"cP";obtain⟨l,e,h⟩:=h;obtain⟨vs,⟨n,Ma⟩,-⟩:=(I.sim.objs a _ e).1;cases t
  ·exact IsiPair.list_int Ma rfl (n5 I h)
  ·exact IsiPair.list_bool Ma rfl (n5 I h)
  ·exact IsiPair.list_str Ma rfl (n5 I h)
  ·exact IsiPair.list_tuple Ma rfl (n5 I h)
  ·exact IsiPair.list_list Ma rfl (n6 I h))
theorem Zc(h:Gj g Q M x):Cl g F (.builtin "len") [x] J M Q X:=by
 cases x with
 | tup l=>obtain⟨p,k⟩:=h;exact bR5 (by exact U4 p) k
 | str l=>obtain⟨p,k⟩:=h;exact Wh (by exact U4 p) k
 | ref a=>
  cases h with
  | mk l e r=>obtain⟨p,k⟩:=r;exact bS1 e (by exact U4 p) k
  | scr E e r=>obtain⟨p,k⟩:=r;rw[bQ] at p k;exact Uy e (by exact U4 p) k
 | _=>exact h.elim
theorem br4(h:zm Q M x):Cl g F (.type "tuple") [x] J M Q X:=by
 cases x with
 | tup l=>exact bo3 h
 | ref a=>obtain⟨l,e,p,k⟩:=h;exact bX0 e (v6 p) k
 | _=>exact h.elim
theorem ck3(h:BL Q M x):Cl g F (.type "list") [x] J M Q X:=by
 cases x with
 | tup l=>obtain⟨p,k⟩:=h;exact bz6 (v6 p) k
 | ref a=>obtain⟨l,e,p,k⟩:=h;exact Qe e (v6 p) k
 | _=>exact h.elim
theorem bq1(h:zF M Q l):Cl g ⟨sc,vs,d,true⟩ (.builtin "min") l J M Q X:=by
 cases l with
 | nil=>exact h.elim
 | cons x l=>cases l with
  | nil=>exact h.elim
  | cons y l=>cases l with
   | nil=>refine g6 (E3 h) λa b Ja c k=>?_;subst Ja;subst c;exact Xi k
   | cons _ _=>exact h.elim
theorem Own.elim{K:Hp->List V->Prop}(h:Own M a K):∃ l u,M a=some (.L l)/\K u l/\∀ o,upd M a o=upd u a o:=by
 cases h with
 | top k=>exact⟨_,_,d6 _ _ _,k,λo=>O1 _ _ _ _⟩
 | mk l h k=>exact⟨l,M,h,k,λz_=>rfl⟩
theorem OwnI.elim{K:Hp->List (Int×V)->Prop}(h:OwnI M a K):∃ l u,M a=some (.di l)/\K u l/\∀ o,upd M a o=upd u a o:=by
 cases h with
 | top k=>exact⟨_,_,d6 _ _ _,k,λo=>O1 _ _ _ _⟩
 | mk l h k=>exact⟨l,M,h,k,λz_=>rfl⟩
theorem OwnS.elim{K:Hp->List (Str×V)->Prop}(h:OwnS M a K):∃ l u,M a=some (.ds l)/\K u l/\∀ o,upd M a o=upd u a o:=by
 cases h with
 | top k=>exact⟨_,_,d6 _ _ _,k,λo=>O1 _ _ _ _⟩
 | mk l h k=>exact⟨l,M,h,k,λz_=>rfl⟩
theorem Xm{K:Hp->Prop}(h:xH M a v K k):StI g F (.ref a) k v J M K:=by
 cases k with
 | int n=>
  cases h with
  | l h=>
   obtain⟨l,M',e,⟨⟨Y,Z,S⟩,k⟩,u⟩:=h.elim;exact cs1 e Y Z (dz (cZ.mpr S) (by decide)) (by rw[u];exact k)
  | d h=>
   obtain⟨l,M',e,⟨p,k⟩,u⟩:=h.elim;exact Ec (kdI g) e (v6 p) (by show K (upd M a _);rw[u];exact k)
 | str n=>
  obtain⟨l,M',e,⟨p,k⟩,u⟩:=OwnS.elim h;exact Ec (kdS g) e (v6 p) (by show K (upd M a _);rw[u];exact k)
 | _=>exact h.elim
theorem Rm(h:Own M a λM k=>Req (k.length<=10000) (Q .none (upd M a (.L (k++[x]))))):Cl g F (.builtin "list.append") [.ref a,x] J M Q X:=by
 obtain⟨l,M',e,⟨p,k⟩,u⟩:=h.elim;clear h;exact ca9 e (v6 p) (by rw[u];exact k)
theorem Xf(h:D9 (λn=>Own M a λM k=>Req (k.length<=10000/\0<=n/\n<k.length) (∀ x,k[n.toNat]?=some x->Q x (upd M a (.L (k.eraseIdx n.toNat))))) x):Cl g F (.builtin "list.pop") [.ref a,x] J M Q X:=by
 refine a7 (N6 h) λn Ja k=>?_;clear h;subst Ja
 obtain⟨l,c,e,⟨p,k⟩,u⟩:=k.elim;have w:=tO p.2.1 p.2.2;exact bT9 e p.1 p.2.1 p.2.2 (bO w) (by rw[u];exact k _ (bO w))
end
section
variable{g:G}{T:Tab}{vs:List Str}{d:Nat}{q:Bool}{J:Lo}{Q:VP}{QB:BP}{X:XP}
theorem p9(h:gl sc x=true):sc.names.lookup x=some .globalImplicit/\(x==("__debug__" : Str))=false:=⟨f4 (b9 h).1,m7 (b9 h).2⟩
theorem Jt(D:TabOK g T)(h:HW (T.lookup x)=true):Fn g x:=by
 cases e:T.lookup x with
 | none=>rw[e] at h;exact(bU h).elim
 | some it=>cases it with
  | fn k=>exact⟨_,_,_,D.at' e⟩
  | _=>rw[e] at h;exact(bU h).elim
theorem M0{id:String}(hT:TabOK g T)(h:K8 id (T.lookup x)=true):Bi g x (.builtin id):=by
 cases e:T.lookup x with
 | none=>rw[e] at h;exact(bU h).elim
 | some it=>cases it with
  | bi k=>rw[e] at h;exact(f4 h:k=id)▸hT.at' e
  | _=>rw[e] at h;exact(bU h).elim
theorem x3{id:String}(hT:TabOK g T)(h:E5 id (T.lookup x)=true):Bi g x (.type id):=by
 cases e:T.lookup x with
 | none=>rw[e] at h;exact(bU h).elim
 | some it=>cases it with
  | ty k=>rw[e] at h;exact(f4 h:k=id)▸hT.at' e
  | _=>rw[e] at h;exact(bU h).elim
theorem NP{D:List (Str×Int)}(hT:TabOK g T)(h:Ik D (T.lookup x)=true):Gd g x D:=by
 cases e:T.lookup x with
 | none=>rw[e] at h;exact(bU h).elim
 | some it=>cases it with
  | dict k=>rw[e] at h;exact(f4 h:k=D)▸hT.at' e
  | _=>rw[e] at h;exact(bU h).elim
theorem Yc(h:isC (some c) v=true)(hq:Q v M):Ev g ⟨sc,vs,d,q⟩ (.Constant c k p) J M Q X:=by
 cases c with
 | none=>cases v with
  | none=>exact aY9 hq
  | _=>exact(bU h).elim
 | bool b=>cases v with
  | bool c=>exact Nh ((f4 h:b=c)▸hq)
  | _=>exact(bU h).elim
 | int b=>cases v with
  | int c=>exact Le ((f4 h:b=c)▸hq)
  | _=>exact(bU h).elim
 | str b=>cases v with
  | str c=>exact Wb ((f4 h:b=c)▸hq)
  | _=>exact(bU h).elim
 | _=>exact(bU h).elim
theorem Y0(h:isC (E2 x) v=true)(u:Q v M):Ev g ⟨sc,vs,d,q⟩ x J M Q X:=by
 cases e:E2 x with
 | none=>rw[e] at h;exact(bU h).elim
 | some c=>refine j7 (xV e) λk p qa=>?_;subst qa;rw[e] at h;exact Yc h u
theorem Mw(hT:TabOK g T)(h:isG T sc v (s0 x)=true)(hq:Q v M):Ev g ⟨sc,vs,d,q⟩ x J M Q X:=by
 cases e:s0 x with
 | none=>rw[e] at h;exact(bU h).elim
 | some n=>
  refine d4 (C9 e) λp qa=>?_;subst qa
  rw[e] at h;refine d5 (b9 h) λh1 h2=>?_;clear h
  refine d5 (p9 h1) λh3 h4=>?_;clear h1
  cases e:T.lookup n with
  | none=>rw[e] at h2;exact(bU h2).elim
  | some it=>cases it with
   | int i=>cases v with
    | int j=>rw[e] at h2;exact Rz (hT.at' e) h3 h4 ((f4 h2:i=j)▸hq)
    | _=>rw[e] at h2;exact(bU h2).elim
   | str i=>cases v with
    | str j=>rw[e] at h2;exact Jl (hT.at' e) h3 h4 ((f4 h2:i=j)▸hq)
    | _=>rw[e] at h2;exact(bU h2).elim
   | _=>rw[e] at h2;exact(bU h2).elim
theorem pC.mono(h:pC g F t a b J M Q X)(k:∀ v M,Q v M->c v M):pC g F t a b J M c X:=(λA R s x y I r1 r2=>
 pgo (h A R s x y I r1 r2) (λN N V u r i y q=>(λN w=>w V u r i y (k _ _ q))) λN N p=>p)
theorem Tru.mono(h:Tru g F a J M QB X)(k:∀ v M,QB v M->c v M):Tru g F a J M c X:=(λA R s x I r=>
 B8 (h A R s x I r) (λN N u i y q=>(λN w=>w u i y (k _ _ q))) λN N p=>p)
theorem Tst.mono(h:Tst g F e J M QB X)(k:∀ v M,QB v M->c v M):Tst g F e J M c X:=(λA R s I=>
 B8 (h A R s I) (λN N u i y q=>(λN w=>w u i y (k _ _ q))) λN N p=>p)
theorem cc2:eval (N1 o p r L) env=boolOp p o (evalEach (r::L) env):=by cases L<;>rfl
theorem Nz(h:Tst g F (N1 .And p r L) J M QB X):H0 g F .And (r::L) J M QB X:=by
 cases L with
 | nil=>exact Ga (Tst.mono h λb M Y=>⟨λe=>SX (e▸Y),λe=>e▸Y⟩)
 | cons _ _=>exact(λA env s I=>h A env s I)
theorem Xp(h:Tst g F (N1 .Or p r L) J M QB X):H0 g F .Or (r::L) J M QB X:=by
 cases L with
 | nil=>exact Hh (Tst.mono h λb M Y=>⟨λe=>e▸Y,λe=>bM2 (e▸Y)⟩)
 | cons _ _=>exact(λA env s I=>h A env s I)
theorem Nf(h:isC (E2 x) v=true):pL x=none:=by
 cases e:E2 x with
 | none=>rw[e] at h;exact(bU h).elim
 | some c=>refine j7 (xV e) λk p qa=>?_;subst qa;rfl
theorem EvO.mono(h:EvO g F e J M Q X)(k:∀ v M,Q v M->c v M):EvO g F e J M c X:=(λA env s I=>
 pgo (h A env s I) (λN N V M' r i y q=>(λN k_=>k_ V M' r i y (k _ _ q))) λN N p=>p)
theorem ck5{l:List (Bool×Sem Value)}(h:l.any (·.1)=false):l.all (λx=>!x.1)=true:=by
 rw[List.all_eq_not_any_not];simp only[oG];rw[h];rfl
theorem Y3{as:List Expr}(h:(backTo p (pg as env)).any (·.1)=false)(hl:as.length<20):((backTo p (pg as env)).all (λx=>!x.1)&&(backToKw p (keywordEach [] env)).all (λx=>x.1.isSome)
   && decide (as.length+([]:List Keyword).length+(if ([]:List Keyword).isEmpty then 0 else 1)<30))=true:=by
 rw[ck5 h];exact decide_eq_true (by simp;exact bN hl (cT ..))
end
def IE.k(v:V):IE where
 ck T sc _ x:=isC (E2 x) v||isG T sc v (s0 x)
 w _ K:=λc s J M=>K c (v::s) J M
 ok D O h:=by
  rcases(iu _ _).mp O with e | e
  ·exact Y0 e h
  ·exact Mw D e h
def IE.v(i:Nat):IE where
 ck _ _ vs x:=e7 (s0 x) λn=>decide (vs[i]?=some n) && !(n==("__debug__" : Str))
 w _ K:=λc s J M=>vAt J i λv=>K c (v::s) J M
 ok _ O h:=by
  apply Y7 O;intro n p u;refine a7 (yC h) λv E k=>?_;clear h
  exact Di (f4 (b9 u).1) E k (m7 (b9 u).2)
def RG(op:Operator)(K:KT):KT:=λc s J M=>s2 (λx y s=>Hr op x y M (ps K c s J)) s
def IE.bin(op:Operator)(a b:IE):IE where
 ck T sc vs x:=e7 (rD x) (cn2 op (a.ck T sc vs) (b.ck T sc vs))
 w q K:=a.w q (b.w q (RG op K))
 ok D O h:=by
  apply DQ O;intro l o r p hc1;k_extra"g"
  obtain rfl:=f4 h1;exact Cd ((a.ok D h2 h).mono λx M h=>(b.ok D h3 h).mono λy M h=>cw1 h)
def rU(op:CmpOp)(K:KT):KT:=λc s J M=>s2 (λx y s=>K1 c.d op x y M (ps K c s J)) s
def IE.cmp(op:CmpOp)(a b:IE):IE where
 ck T sc vs x:=e7 (P6 x) (ZX op (a.ck T sc vs) (b.ck T sc vs))
 w q K:=a.w q (b.w q (rU op K))
 ok D O h:=by
  k_extra"T"
  k_extra"aH"
  k_extra"2"
  obtain rfl:=f4 h1;exact ZS ((a.ok D h3 h).mono λx M h=>(b.ok D h4 h).mono λy M h=>P3 h) (m7 h2)
def rO(A B:KT):KT:=λc s J M=>s1 (λv s=>V2 v M λb M=>Ite b (A c s J M) (B c s J M)) s
def IT.cmp(op:CmpOp)(a b:IE):IT where
 ck:=(IE.cmp op a b).ck
 w q A B:=a.w q (b.w q (rU op (rO A B)))
 ok {T q c sc vs x A B s J M} D O h:=by
  k_extra"S";intro u Ma;k_extra"T"
  k_extra"aH"
  k_extra"2"
  obtain rfl:=f4 h1;exact Ma _ (Gg ((a.ok D h3 h).mono λx M h=>(b.ok D h4 h).mono λy M h=>(P3 (F:=⟨sc,vs,c.d,q⟩) h).mono λt M h=>pY h) (m7 h2))
def chK(Ma N:KT)(c:Cx)(s:List V)(J:Lo)(y:V):VP:=λt M=>V2 t M λu M=>Ite u (Ma c (y::s) J M) (N c (t::s) J M)
def Am(o:CmpOp)(Ma N:KT):KT:=λc s J M=>s2 (λx y s=>K1 c.d o x y M (chK Ma N c s J y)) s
def IE.chain(o p:CmpOp)(a b c:IE):IE where
 ck T sc vs x:=e7 (P6 x) (MF o p (a.ck T sc vs) (b.ck T sc vs) (c.ck T sc vs))
 w q K:=a.w q (b.w q (Am o (c.w q (rU p K)) K))
 ok {T q C sc vs x K s J M} D hc h:=by
  k_extra"ar"
  k_extra"cb"
  k_extra"cc"
  k_extra"j"
  obtain rfl:=f4 h1;obtain rfl:=f4 h2;refine Ma _ ?_;exact bn9 ((a.ok D h4 h).mono λx M h=>(b.ok D h5 h).mono λy M h=>(P3 (F:=⟨sc,vs,C.d,q⟩) (show K1 C.d o1 x y M (chK _ _ C s J y) from h)).mono λt M h=>(pY h).mono λA M i=>
   ⟨λe=>(c.ok D h6 (i.1 e)).mono λz M h=>P3 (show K1 C.d o2 y z M (ps K C s J) from h),i.2⟩) (m7 h3)
def zN(K:KT):KT:=λc s J M=>s1 (λz_ s=>K c s J M) s
def IT.chain(o p:CmpOp)(a b c:IE):IT where
 ck:=(IE.chain o p a b c).ck
 w q A B:=a.w q (b.w q (Am o (c.w q (rU p (rO A B))) (zN B)))
 ok {T q C sc vs x A B s J M} D hc h:=by
  k_extra"ar"
  k_extra"cb"
  k_extra"cc"
  k_extra"j"
  obtain rfl:=f4 h1;obtain rfl:=f4 h2;refine Ma _ ?_;exact XN ((a.ok D h4 h).mono λx M h=>(b.ok D h5 h).mono λy M h=>(P3 (F:=⟨sc,vs,C.d,q⟩) (show K1 C.d o1 x y M (chK _ _ C s J y) from h)).mono λt M h=>(pY h).mono λE M i=>
   ⟨λe=>(c.ok D h6 (i.1 e)).mono λz M h=>(P3 (F:=⟨sc,vs,C.d,q⟩) (show K1 C.d o2 y z M (ps (rO A B) C s J) from h)).mono λt M h=>pY h,λe=>⟨λe=>tf e,λz_=>i.2 e⟩⟩) (m7 h3)
def Vn(K:KT):KT:=λc s J M=>s1 (λx s=>V2 x M λb M=>K c (.bool (!b)::s) J M) s
def IE.not(a:IE):IE where
 ck T sc vs x:=e7 (R2 x) λt=>decide (t.1=.Not)&&a.ck T sc vs t.2
 w q K:=a.w q (Vn K)
 ok D O h:=by
  k_extra"aI";exact Ey ((a.ok D (b9 hc1).2 h).mono λx M h=>bp1 (pY h))
def IT.not(a:IT):IT where
 ck T sc vs x:=e7 (R2 x) λt=>decide (t.1=.Not)&&a.ck T sc vs t.2
 w q A B:=a.w q B A
 ok D O h:=by
  k_extra"aI";exact bo4 ((a.ok D (b9 hc1).2 h).mono λt M i=>by cases t<;>exact⟨λe=>i.2 (by first | rfl | exact tf e),λe=>i.1 (by first | rfl | exact ft e)⟩)
def Wr(K:KT):KT:=λc s J M=>s1 (λx s=>D9 (λi=>K c (.int (-i)::s) J M) x) s
def IE.neg(a:IE):IE where
 ck T sc vs x:=e7 (R2 x) λt=>decide (t.1=.USub)&&a.ck T sc vs t.2
 w q K:=a.w q (Wr K)
 ok D O h:=by
  k_extra"aI";refine Ey ((a.ok D (b9 hc1).2 h).mono λx M h=>a7 (N6 h) λi Ja k=>?_)
  clear h;subst Ja;exact ch4 k
def Mq(Ma K:KT):KT:=λc s q H=>s1 (λx s=>V2 x H λt H=>Ite t (Ma c s q H) (K c (x::s) q H)) s
def IE.and(a b:IE):IE where
 ck T sc vs x:=e7 (R4 x) λt=>decide (t.1=.And)&&qM t.2.1 λl r es=>a.ck T sc vs l&&b.ck T sc vs (N1 .And t.2.2 r es)
 w q K:=a.w q (Mq (b.w q K) K)
 ok {T q c sc vs x K s J M} hT hc h:=by
  k_extra"S";intro P_ hP_;apply vW hc;k_extra"J"
  refine hP_ _ (λA env s I=>?_)
  show wpAny _ A (do
   let v <- eval l env
   standAt p
   let t <- holding [v] (truthy v)
   match BoolOp.And,t with
   | .And,false | .Or,true=>pure v
   | _,_=>boolOp p .And (evalEach (r::es) env)) _ _ s
  refine oM (pgo (((a.ok hT (b9 hc2).1 h).mono λx M h=>(pY (g:=c.g) (F:=⟨sc,vs,c.d,q⟩) (J:=J) (X:=xC c J) h)) A env s I) (λv sw V sv r I1 st1 h1=>oM (wpAny_standAt (oM (oX (B8 (h1 A env sw v I1 r) (λt s₂ M2 sy st2 h2=>?_) λN N p=>p.step st1))))) λN N p=>p)
  have st12:=st1.trans st2;obtain⟨i1,i2⟩:=h2;cases t with
  | false=>exact oN (λN k_=>k_ V M2 (r.mono st2.ak) sy st12 (i2 rfl))
  | true=>
   show wpAny _ A (boolOp p .And _) _ _ s₂;rw[<- cc2];exact oO ((b.ok hT (b9 hc2).2 (i1 rfl)) A env s₂ sy) (λN N p=>p.step st12) λN N p=>p.step st12
def IT.and(a b:IT):IT where
 ck T sc vs x:=e7 (R4 x) λt=>decide (t.1=.And)&&qM t.2.1 λl r es=>a.ck T sc vs l&&b.ck T sc vs (N1 .And t.2.2 r es)
 w q A B:=a.w q (b.w q A B) B
 ok D O h:=by
  apply vW O;k_extra"J"
  exact Bx (Ga ((a.ok D (b9 hc2).1 h).mono λt H i=>⟨λe=>Nz (b.ok D (b9 hc2).2 (i.1 e)),λe=>⟨λe=>tf e,λz_=>i.2 e⟩⟩))
def IT.or(a b:IT):IT where
 ck T I c x:=e7 (R4 x) λt=>decide (t.1=.Or)&&qM t.2.1 λl r es=>a.ck T I c l&&b.ck T I c (N1 .Or t.2.2 r es)
 w q A B:=a.w q A (b.w q A B)
 ok D O h:=by
  apply vW O;k_extra"J"
  exact Bx (Hh ((a.ok D (b9 hc2).1 h).mono λt H i=>⟨λe=>⟨λz_=>i.1 e,λe=>ft e⟩,λe=>Xp (b.ok D (b9 hc2).2 (i.2 e))⟩))
def IT.of(a:IE):IT where
 ck T I c x:=wH x&&a.ck T I c x
 w q A B:=a.w q (rO A B)
 ok D O h:=Ev.tst_of ((a.ok D (b9 O).2 h).mono λv H h=>pY h) (λR w=>KJ (b9 O).1)
noncomputable def IEs.nil:IEs where
 n:=0
 ck _ _ _ l:=l.isEmpty
 w _ K:=K
 st hc env pos:=by obtain rfl:=dh.mp hc;rfl
 len hc:=by obtain rfl:=dh.mp hc;rfl
 ok hT hc h:=by obtain rfl:=dh.mp hc;exact sW ⟨rfl,h⟩
noncomputable def O9{c:Type}(l:List c)(f:c->List c->Bool):Bool:=match l with
 | x::l=>f x l
 | []=>false
theorem L3{c:Type}{l:List c}{f:c->List c->Bool}{P:List c->Prop}(h:O9 l f=true)(k:∀ x r,f x r=true->P (x::r)):P l:=by
 cases l with
 | nil=>exact tf h
 | cons x r=>exact k x r h
def IEs.cons(a:IE)(L:IEs):IEs where
 n:=L.n+1
 ck T I c l:=O9 l λe l=>!star e&&(a.ck T I c e&&L.ck T I c l)
 w q K:=a.w q (L.w q K)
 st hc R pos:=by
  apply L3 hc;k_extra"aa"
  rw[v8 (m7 h1)];exact L.st h3 R pos
 len hc:=by
  apply L3 hc;intro e l hc;exact congrArg (· + 1) (L.len (b9 (b9 hc).2).2)
 ok D hc h:=by
  apply L3 hc;k_extra"aa"
  exact W0 ((a.ok D h2 h).mono λv H h=>(L.ok D h3 h).mono λl H h=>⟨congrArg (· + 1) h.1,h.2⟩) (L.st h3) (λR=>v8 (m7 h1))
def Xl(n:Nat)(K:KT):KT:=λc s q H=>C8 n [] s λl s=>K c (.tup l::s) q H
def IE.tup(L:IEs):IE where
 ck T sc vs x:=e7 (G4 x) (tG (L.ck T sc vs))
 w q K:=L.w q (Xl L.n K)
 ok {T q c sc vs x K s J M} hT hc h:=by
  apply wM hc;intro l k p u;have y:=L.len (b9 u).2;exact Ad ((L.ok hT (b9 u).2 h).mono λl M h=>⟨v6 (by rw[h.1,<- y];exact(f4 (b9 u).1)),D7 (k:=λl s=>K c (.tup l::s) J M) h.1 h.2⟩)
def ZQ(n:Nat)(K:KT):KT:=λc s q H=>C8 n [] s λl s=>New H λa=>K c (.ref a::s) q (upd H a (.L l))
def IE.L(L:IEs):IE where
 ck T sc vs x:=e7 (W8 x) (tG (L.ck T sc vs))
 w q K:=L.w q (ZQ L.n K)
 ok {T q c sc vs x K s J M} hT hc h:=by
  apply Ti hc;intro l p u;have y:=L.len (b9 u).2;exact xg ((L.ok hT (b9 u).2 h).mono λl M h=>⟨v6 (by rw[h.1,<- y];exact(f4 (b9 u).1)),D7 (k:=λl s=>New M λa=>K c (.ref a::s) J (upd M a (.L l))) h.1 h.2⟩)
def Rc(K:KT):KT:=λc s q H=>s2 (λx y s=>zM c.g x y H (ps K c s q)) s
def IE.itm(a b:IE):IE where
 ck T I c x:=e7 (L6 x) (PB (a.ck T I c) (b.ck T I c))
 w q K:=a.w q (b.w q (Rc K))
 ok D O h:=by
  apply Y2 O;intro l r p hc1;k_extra"g"
  exact uK ((a.ok D h2 h).mono λx H h=>(b.ok D h3 h).mono λy H h=>bb9 h) (λN N=>xn (fM.mp h1))
def Ka(n:Nat)(K:KT):KT:=λc s q H=>s1 (λx s=>Ho c.g n x H (ps K c s q)) s
def IE.itk(a:IE)(n:Nat):IE where
 ck T I c x:=e7 (L6 x) (Ji n (a.ck T I c))
 w q K:=a.w q (Ka n K)
 ok D O h:=by
  apply Y2 O;intro l r p hc1;k_extra"g"
  exact uK ((a.ok D h3 h).mono λx H h=>Y0 h1 (Pn (f4 h2) h)) (λN N=>xn (Nf h1))
def Xj(n:Nat)(K:KT):KT:=λc s q H=>s1 (λk s=>C8 n [] s λl s=>zL l k H (ps K c s q)) s
def IE.pick(L:IEs)(i:IE):IE where
 ck T sc vs x:=e7 (L6 x) (bd1 (i.ck T sc vs) (L.ck T sc vs))
 w q K:=L.w q (i.w q (Xj L.n K))
 ok {T q c sc vs x K s J M} hT hc h:=by
  k_extra"S";intro C Ma;apply Y2 hc;intro l r p hc1;k_extra"g"
  refine a7 (i7 h3) λl e Q=>d4 (vG e) λD Ja=>?_
  subst Ja;have hl:=f4 (b9 Q).1;have A:=L.len (b9 Q).2;refine Ma _ (bw9 ((L.ok hT (b9 Q).2 h).mono λl M h=>⟨v6 (by rw[h.1,<- A];exact hl),(i.ok hT h2 h.2).mono λk M y=>?_⟩) (λN N=>xn (fM.mp h1)))
  have y:=D7 (k:=λl s=>zL l k M (ps K c s J)) h.1 y
  cases k with
  | int n=>
   obtain⟨Y,h1,k⟩:=y;have u:=tO Y h1;exact⟨n,_,rfl,Y,by lia,bO u,k _ (bO u)⟩
  | _=>exact y.elim
noncomputable def IO.no:IO where
 ck _ _ _ x:=x.isNone
 w _ K:=λc s q H=>K c (.none::s) q H
 ok D O h:=by obtain rfl:=fM.mp O;exact bp7 h
def IO.e(a:IE):IO where
 ck T I c x:=e7 x (a.ck T I c)
 w:=a.w
 ok D O h:=by
  refine a7 (i7 O) λy e O=>?_;subst e
  exact bw4 (a.ok D O h)
def cc7(K:KT):KT:=λc s q H=>s3 (λx u w s=>tZ u λu=>tZ w λw=>FJ u w x H (ps K c s q)) s
def IE.slc(a:IE)(y c:IO):IE where
 ck T I A x:=e7 (L6 x) (ci5 (a.ck T I A) (y.ck T I A) (c.ck T I A))
 w q K:=a.w q (y.w q (c.w q (cc7 K)))
 ok D O h:=by
  apply Y2 O;intro l r p hc1;obtain⟨⟨u,w,z⟩,e,Q⟩:=i7 hc1;clear hc1;refine d4 (Zi e) λL Ja=>?_;subst Ja
  obtain⟨Z,S,C,X⟩:=(b9 Q).imp id λh=>(b9 h).imp id b9;clear Q
  obtain rfl:=fM.mp Z;refine bm0 ((a.ok D S h).mono λx H h=>(y.ok D C h).mono λu H h=>(c.ok D X h).mono λw H h=>a7 (Bg h) λE P h=>?_)
  exact a7 (Bg h) λF R h=>⟨E,F,P,R,J5 h⟩
def uy(q:Bool)(f:Str)(n:Nat)(K:KT):KT:=λc s u H=>C8 n [] s λl s=>d8 c.g c.d q f l H (ps K c s u) (xC c u)
def IE.call(f:Str)(L:IEs):IE where
 ck T sc vs x:=t9 x (bF3 T sc f (L.ck T sc vs))
 w q K:=L.w q (uy q f L.n K)
 ok {T q c sc vs x K s J M} hT hc h:=by
  k_extra"S";intro u Ma;k_extra"f"
  k_extra"v"
  k_extra"cd"
  exact Ma _ (Vp (Jt hT h3) h5 h6 ((L.ok hT h4 h).mono λl M h=>D7 (k:=λl s=>d8 c.g c.d q n l M (ps K c s J) (xC c J)) h.1 h.2))
abbrev WB:=Bool->G->List V->Hp->VP->Prop
def iBf(W:G->List V->Hp->VP->Prop)(n:Nat)(K:KT):KT:=λc s q H=>C8 n [] s λl s=>W c.g l H (ps K c s q)
def IE.bf(u:String)(W:WB)(h:∀ {q g sc vs d l J M Q X},W q g l M Q->Cl g ⟨sc,vs,d,q⟩ (.builtin u) l J M Q X)(es:IEs):IE where
 ck T sc vs x:=t9 x (biC T sc (K8 u) (es.ck T sc vs))
 w q K:=es.w q (iBf (W q) es.n K)
 ok {T q c sc vs x K s J M} hT hc h':=by
  k_extra"S";intro y Ma;k_extra"f"
  k_extra"g"
  refine d5 (p9 h1) λh5 h6=>?_;clear h1
  exact Ma _ (u_b (M0 hT h2) h5 ((es.ok hT h3 h').mono λl M h'=>h (D7 (k:=λl s=>W q c.g l M (ps K c s J)) h'.1 h'.2)) h6)
def IE.tyf(u:String)(W:WB)(h:∀ {q g sc vs d l J M Q X},W q g l M Q->Cl g ⟨sc,vs,d,q⟩ (.type u) l J M Q X)(es:IEs):IE where
 ck T sc vs x:=t9 x (biC T sc (E5 u) (es.ck T sc vs))
 w q K:=es.w q (iBf (W q) es.n K)
 ok {T q c sc vs x K s J M} hT hc h':=by
  k_extra"S";intro y Ma;k_extra"f"
  k_extra"g"
  refine d5 (p9 h1) λh5 h6=>?_;clear h1
  exact Ma _ (u_t (x3 hT h2) h5 ((es.ok hT h3 h').mono λl M h'=>h (D7 (k:=λl s=>W q c.g l M (ps K c s J)) h'.1 h'.2)) h6)
def quiet(P:Prop)(q:Bool):Prop:=match q with
 | true=>P
 | false=>False
theorem L8{P:Prop}{C:Bool->Prop}(h:quiet P q)(k:P->C true):C q:=by
 cases q with
 | true=>exact k h
 | false=>exact h.elim
def IE.len(a:IE):IE:=.bf "len" (λz_ g l H Q=>un (Gj g Q H) l) (λh=>by refine a7 (E7 h) λx Ja k=>?_;subst Ja;exact Zc k) (.cons a .nil)
def IE.all(a:IE):IE:=.bf "all" (λq N l H Q=>quiet (un (m5 λa=>AllB H a Q) l) q) (fun{q g I c d l u H Q X} h=>L8 (C:=λq=>Cl g ⟨I,c,d,q⟩ (.builtin "all") l u H Q X) h λh=>by
 refine a7 (E7 h) λx qa k=>?_;subst qa;obtain⟨a,rfl,L,e,k⟩:=s9 k;exact cw5 rfl e k) (.cons a .nil)
def IE.int(a:IE):IE:=.tyf "int" (λN N l H Q=>un (HR λb=>Q (.int (b2i b)) H) l) (λh=>by
 refine a7 (E7 h) λx qa k=>?_;subst qa;refine a7 (Zz k) λb qa k=>?_;subst qa;exact ZW (by cases b<;>exact k)) (.cons a .nil)
def IE.min(a b:IE):IE:=.bf "min" (λq N l H Q=>quiet (zF H Q l) q) (fun{q g I c d l u H Q X} h=>L8 (C:=λq=>Cl g ⟨I,c,d,q⟩ (.builtin "min") l u H Q X) h λh=>bq1 h) (.cons a (.cons b .nil))
def IE.max(a b:IE):IE:=.bf "max" (λq N l H Q=>quiet (duo (A9 λa b=>Q (.int (Max.max a b)) H) l) q) (fun{q g I u d l w H Q X} h=>L8 (C:=λq=>Cl g ⟨I,u,d,q⟩ (.builtin "max") l w H Q X) h λh=>by
 refine i5 (bJ5 h) λx y Ja k=>?_;subst Ja;refine g6 (E3 k) λa b Ja c k=>?_;subst Ja;subst c;exact Wc k) (.cons a (.cons b .nil))
inductive Srted(M:Hp)(a:Addr)(Q:VP):Prop
 | mk (l:List Int) (h:M a=some (.L (l.map .int))) (h64:l.length<64) (k:∀ b (l':List Int),M b=none->l'.Perm l->Q (.ref b) (upd M b (.L (l'.map .int)))):Srted M a Q
def IE.sorted(a:IE):IE:=.bf "sorted" (λq N l H Q=>quiet (un (m5 λa=>Srted H a Q) l) q) (fun{q g I c d l u H Q X} h=>L8 (C:=λq=>Cl g ⟨I,c,d,q⟩ (.builtin "sorted") l u H Q X) h λh=>by
 refine a7 (E7 h) λx qa k=>?_;subst qa;obtain⟨a,rfl,l,e,S,k⟩:=s9 k;exact Qh e S k) (.cons a .nil)
def IE.tuple(a:IE):IE:=.tyf "tuple" (λN N l H Q=>un (zm Q H) l) (λh=>by refine a7 (E7 h) λx Ja k=>?_;subst Ja;exact br4 k) (.cons a .nil)
def IE.list(a:IE):IE:=.tyf "list" (λN N l H Q=>un (BL Q H) l) (λh=>by refine a7 (E7 h) λx Ja k=>?_;subst Ja;exact ck3 k) (.cons a .nil)
def IE.sum(a:IE):IE:=.bf "sum" (λq N l H Q=>quiet (un (m5 λa=>SumL H a Q) l) q) (fun{q g I c d l u H Q X} h=>L8 (C:=λq=>Cl g ⟨I,c,d,q⟩ (.builtin "sum") l u H Q X) h λh=>by
 refine a7 (E7 h) λx qa k=>?_;subst qa;obtain⟨a,rfl,E,e,k⟩:=s9 k;exact Yv e k) (.cons a .nil)
def IE.dict(a:IE):IE:=.tyf "dict" (λq N l H Q=>quiet (un (m5 λa=>DOf H a Q) l) q) (fun{q g I c d l u H Q X} h=>L8 (C:=λq=>Cl g ⟨I,c,d,q⟩ (.type "dict") l u H Q X) h λh=>by
 refine a7 (E7 h) λx qa k=>?_;subst qa;obtain⟨a,rfl,ps,e,hn,hz,k⟩:=s9 k;exact Zx e hn hz k) (.cons a .nil)
def Tt(t:TY)(K:KT):KT:=λc s q H=>s1 (λx s=>yG t x H (ps K c s q)) s
def IE.isi(a:IE)(t:TY):IE where
 ck T I u x:=t9 x (biC T I (K8 "isinstance") (wI (a.ck T I u) (zu (tyN T I t.nm))))
 w q K:=a.w q (Tt t K)
 ok D hc h:=by
  k_extra"f"
  k_extra"g"
  k_extra"aJ"
  k_extra"aB"
  refine a7 (i7 h5) λm e' hc3=>?_;clear h5
  refine d4 (C9 e') λp' qa=>?_;subst qa
  k_extra"bV"
  exact d5 (p9 (b9 hc3).1) λc L=>Gw (M0 D h2) (x3 D (b9 hc3).2) h6 c ((a.ok D h4 h).mono λv H h=>bm4 h) h7 L (λR=>v8 (m7 k3))
def UJ(K:KT):KT:=λc s q H=>s1 (λx s=>bv3 H (ps K c s q) x) s
def IE.isl(a:IE):IE where
 ck T I O x:=t9 x (biC T I (K8 "isinstance") (wI (a.ck T I O) (Wx T I)))
 w q K:=a.w q (UJ K)
 ok D hc h:=by
  k_extra"f"
  k_extra"g"
  k_extra"aJ"
  k_extra"aB"
  refine a7 (i7 h5) λl Ja u=>?_;clear h5
  refine j7 (Y4 Ja) λP S qa=>?_;subst qa
  refine i5 (y0 u) λY Q qa c=>?_;clear u;subst qa
  refine a7 (i7 (b9 c).1) λZ E F=>d4 (C9 E) λU qa=>?_
  subst qa;refine a7 (i7 (b9 c).2) λt2 C y=>?_;clear c
  refine d4 (C9 C) λX qa=>?_;subst qa
  k_extra"bV"
  refine d5 (p9 (b9 F).1) λMa L=>d5 (p9 (b9 y).1) λA H=>?_
  refine Tf (M0 D h2) (x3 D (b9 F).2) (x3 D (b9 y).2) h6 Ma A ((a.ok D h4 h).mono λv M h=>?_) h7 L H (λR=>v8 (m7 k3))
  cases v with
  | tup l=>exact⟨.inr ⟨l,rfl⟩,h⟩
  | ref a=>obtain⟨l,e,h⟩:=(show Look _ _ _ from h);exact⟨.inl ⟨a,l,rfl,e⟩,h⟩
  | _=>exact False.elim h
def iMe(W:Addr->V->Hp->VP->Prop)(K:KT):KT:=λc s q H=>s2 (λo x s=>m5 (λa=>W a x H (ps K c s q)) o) s
def Hc(K:KT):KT:=λc s q H=>s1 (λo s=>m5 (λa=>Look H a λz_=>K c (o::s) q H) o) s
def IE.me(nm:Str)(u:String)(W:Addr->V->Hp->VP->Prop)(slot:Slot "list" nm u)(y:typeOf (.builtin u)=pure (.type "method_descriptor"))(h:∀ {g F a x J M Q X},W a x M Q->Cl g F (.builtin u) [.ref a,x] J M Q X)(o e:IE):IE where
 ck T sc vs x:=e7 (A5 x) λt=>t.2.2.1.isEmpty&&e7 (E1 t.1) (xB nm (o.ck T sc vs) ((IEs.cons e .nil).ck T sc vs) t.2.1 t.2.2.2)
 w q K:=o.w q (Hc (e.w q (iMe W K)))
 ok {T q c sc vs x K s J M} hT hc h':=by
  k_extra"S";intro D Ma;k_extra"L"
  k_extra"ag";intro H n E hc3;k_extra"j"
  obtain rfl:n=nm:=f4 h1;refine Ma _ ?_;refine Cv slot y ((o.ok hT h5 h').mono λv M h'=>?_) h2 (λR=>Q0 h3) (λR=>Y3 ((IEs.cons e .nil).st h6 R p) (f4 h4))
  obtain⟨a,rfl,l,e',h'⟩:=s9 h';exact⟨a,l,rfl,e',((IEs.cons e .nil).ok (K:=iMe W K) hT h6 h').mono λL M ⟨A,C⟩=>by
   obtain⟨x,rfl⟩:∃ x,L=[x]:=by cases L with | nil=>cases A | cons x l=>cases l with | nil=>exact⟨x,rfl⟩ | cons _ _=>cases A
   exact h C⟩
def IE.append(o e:IE):IE:=.me (bM "append") "list.append" (λa x H Q=>Own H a λH k=>Req (k.length<=10000) (Q .none (upd H a (.L (k++[x]))))) slot_list_append type_list_append Rm o e
def IE.pop(o e:IE):IE:=.me (bM "pop") "list.pop" (λa x H Q=>D9 (λn=>Own H a λH k=>Req (k.length<=10000/\0<=n/\n<k.length) (∀ x,k[n.toNat]?=some x->Q x (upd H a (.L (k.eraseIdx n.toNat))))) x) PySem.F.slot_list_pop PySem.F.type_list_pop Xf o e
def Pr(D:List (Str×Int))(K:KT):KT:=λc s q H=>s1 (λx s=>K5 (λk=>DGet D k λv=>K c (v::s) q H) x) s
def IE.get(D:List (Str×Int))(a:IE):IE where
 ck T I Q x:=e7 (A5 x) λt=>t.2.2.1.isEmpty&&e7 (E1 t.1) λu=>decide (u.2.1=bM "get")&&((u.2.2.endLine==t.2.2.2.line)&&one t.2.1 λe=>!star e&&(a.ck T I Q e&&e7 (s0 u.1) λd=>gl I d&&Ik D (T.lookup d)))
 w q K:=a.w q (Pr D K)
 ok C hc h:=by
  k_extra"L"
  k_extra"ag";intro O n S hc3;k_extra"ce"
  obtain rfl:n=bM "get":=f4 h1;refine a7 (q9 hc4) λE Ja F=>?_;clear hc4;subst Ja
  refine i4 ((b9 F).imp id b9) λL X A=>?_;clear F
  apply Y7 (x:=O) A;intro Y Z c;refine d5 (p9 (b9 c).1) λMa U=>?_
  have P:∀ R,pg [E] R=[(false,eval E R)]:=λR=>v8 (m7 L)
  refine Oa (NP C (b9 c).2) Ma U ((a.ok C X h).mono λv H h=>?_) h2 (λR=>rfl) (λR=>Y3 (by rw[P];rfl) (by simp)) P
  refine a7 (wV h) λy Ja h=>?_;subst Ja
  refine⟨y,rfl,?_⟩;cases h with
  | none e k=>rw[e];exact k
  | some i e k=>rw[e];exact k
def Rn(K:KT):KT:=λc s q H=>s1 (λx s=>D9 (λn=>Req (0<=n/\n<=10000) (New H λb=>K c (.ref b::s) q (upd H b (.L (m6 0 1 n.toNat))))) x) s
def qK(q:Bool)(K:KT):KT:=λc s u H=>quiet (K c s u H) q
def IE.lrng(a:IE):IE where
 ck T sc vs x:=t9 x (biC T sc (E5 "list") (Q6 (Ae T sc "range" (a.ck T sc vs))))
 w q K:=qK q (a.w q (Rn K))
 ok {T q c sc vs x K s J M} hT hc h:=by
  k_extra"S";intro D Ma;k_extra"f"
  k_extra"D"
  k_extra"1"
  k_extra"bZ"
  k_extra"cf"
  k_extra"cw"
  refine d5 (p9 h1) λu y=>d5 (p9 h3) λA C=>?_
  k_extra"aT"
  cases q with
  | false=>exact h.elim
  | true=>
   refine KH (x3 hT h2) u y (DG (x3 hT h4) A ((a.ok hT (b9 hc6).2 h).mono λv M h=>?_) C hs) (λenv=>rfl)
   obtain⟨n,rfl,⟨Y,h1⟩,k⟩:=N6 h;exact⟨n,rfl,n.toNat,rfl,rfl,by exact(dN Y).symm,by exact(fun{m} {n}=>iJ.mpr) h1,k⟩
def Qn(K:KT):KT:=λc s q H=>s1 (λx s=>m5 (λa=>SSet H a (ps K c s q)) x) s
def IE.sset(a:IE):IE where
 ck T sc vs x:=t9 x (biC T sc (K8 "sorted") (Q6 (Ae T sc "set" (a.ck T sc vs))))
 w q K:=qK q (a.w q (Qn K))
 ok {T q c sc vs x K s J M} hT hc h:=by
  k_extra"S";intro C Ma;k_extra"f"
  k_extra"D"
  k_extra"1"
  k_extra"bZ"
  k_extra"cf"
  k_extra"cw"
  k_extra"af"
  refine d5 (p9 h3) λy A=>?_;clear h3
  k_extra"aT"
  cases q with
  | false=>exact h.elim
  | true=>
   refine SN (M0 hT h2) (x3 hT h4) k1 y rfl ((a.ok hT (b9 hc6).2 h).mono λv M h=>?_) k2 A hs
   obtain⟨b,rfl,l,e,u,k⟩:=s9 h;clear h;exact⟨b,l,rfl,e,u,k⟩
def IE.dic0(b:Bool):IE where
 ck _ _ _ x:=e7 (qR x) λt=>t.1.isEmpty&&t.2.isEmpty
 w _ K:=λc s J M=>New M λa=>K c (.ref a::s) J (upd M a (bif b then .ds [] else .di []))
 ok {T q c sc vs x K s J M} hT hc h:=by
  refine a7 (i7 hc) λt e u=>?_;clear hc
  k_extra"bY"
  rw[dh.mp (b9 u).1,dh.mp (b9 u).2];cases b with
  | true=>exact Fd (kdS c.g) h
  | false=>exact Fd (kdI c.g) h
def ca2(K:KT):KT:=λc s q M=>s2 (λx y s=>D9 (λk=>New M λa=>K c (.ref a::s) q (upd M a (.di [(k,y)]))) x) s
def IE.dic1(k v:IE):IE where
 ck T sc vs x:=e7 (qR x) λt=>one t.1 λJa=>e7 Ja λH=>one t.2 λI=>k.ck T sc vs H&&v.ck T sc vs I
 w q K:=k.w q (v.w q (ca2 K))
 ok {T q c sc vs x K s J M} hT hc h:=by
  k_extra"S";intro R Ma;obtain⟨⟨O,P⟩,e,u⟩:=i7 hc;clear hc;k_extra"bY"
  refine a7 (q9 u) λJa E A=>?_;clear u
  refine a7 (i7 A) λH C D=>?_;clear A
  refine a7 (q9 D) λI L F=>?_;clear D
  obtain rfl:O=[some H]:=by rw[<- C];exact E
  obtain rfl:P=[I]:=L;exact Ma _ (bK9 (kdI c.g) ((k.ok hT (b9 F).1 h).mono λx M h=>(v.ok hT (b9 F).2 h).mono λy M h=>N6 h))
def IE.pw(n:Nat)(v:Int):IE where
 ck _ _ _ x:=e7 (rD x) λt=>decide (t.2.1=.Pow)&&(isC (E2 t.1) (.int 10)&&(isC (E2 t.2.2) (.int n)&&(decide (n<=12)&&decide (v=10 ^ n))))
 w _ K:=λc s q M=>K c (.int v::s) q M
 ok D O h:=by
  apply DQ O;intro l o r p hc1;k_extra"aK"
  obtain rfl:=f4 h1;have u:=f4 h4;obtain rfl:=f4 h5;refine Cd (Y0 h2 (Y0 h3 (Ww (du n) ?_ h)));have:(Builtin.Int.intBits 10:Int)=4:=by k_extra"#"
  rw[this];lia
def VH(K:KT):KT:=λc s q M=>s1 (λo s=>m5 (λa=>LookS M a λz_=>K c (o::s) q M) o) s
def Nt(K:KT):KT:=λc s q M=>s3 (λo y w s=>m5 (λa=>K5 (λn=>LookS M a λl=>K c ((i9 l n).getD w::s) q M) y) o) s
def IE.dg2(a k z:IE):IE where
 ck T sc vs x:=e7 (A5 x) λt=>t.2.2.1.isEmpty&&e7 (E1 t.1) (Lj (a.ck T sc vs) (k.ck T sc vs) (z.ck T sc vs) t.2.1 t.2.2.2)
 w q K:=a.w q (VH (k.w q (z.w q (Nt K))))
 ok {T q c sc vs x K s J M} hT hc h:=by
  k_extra"S";intro Y Ma;k_extra"L"
  k_extra"ag";intro ob n Z A;obtain⟨h1,S,H,X,C⟩:=(b9 A).imp id λh=>(b9 h).imp id λh=>(b9 h).imp id b9;clear A
  obtain rfl:n=bM "get":=f4 h1;refine i5 (y0 C) λe y Ja F=>?_;clear C;subst Ja
  obtain⟨E,U,I,L⟩:=(b9 F).imp id λh=>(b9 h).imp id b9;clear F
  refine Ma _ ?_;have P:∀ R,pg [e,y] R=[(false,eval e R),(false,eval y R)]:=λR=>by rw[v8 (m7 E),v8 (m7 U)];rfl
  refine by2 (kdS c.g) ((a.ok hT X h).mono λv M h=>?_) S (λR=>Q0 H) (λR=>Y3 (by rw[P];rfl) (show 2<20 by decide)) P
  obtain⟨b,rfl,l,e,h⟩:=s9 h;refine⟨b,l,rfl,e,(k.ok hT I h).mono λu M h=>(z.ok hT L h).mono λw M h=>?_⟩
  obtain⟨n,rfl,O,D,h⟩:=wV (show K5 _ u from h)
  exact⟨n,O,rfl,D,h⟩
structure IK where
 ks:List Str
 n:Nat
 ck:Tab->Scope->List Str->List (Option Expr)->List Expr->Bool
 w:Bool->KT->KT
 ok:∀ {T q c sc vs keys x K s J M},TabOK c.g T->ck T sc vs keys x=true->w q K c s J M->Evk c.g ⟨sc,vs,c.d,q⟩ keys x ks J M (λl M=>l.length=n/\K c (l.reverseAux s) J M) (xC c J)
noncomputable def IK.nil:IK where
 ks:=[]
 n:=0
 ck _ _ _ k x:=k.isEmpty&&x.isEmpty
 w _ K:=K
 ok D O h:=by obtain rfl:=dh.mp (b9 O).1;obtain rfl:=dh.mp (b9 O).2;exact WX ⟨rfl,h⟩
def IK.cons(k:Str)(a:IE)(es:IK):IK where
 ks:=k::es.ks
 n:=es.n+1
 ck T sc vs ks l:=O9 ks λo ks=>O9 l λe l=>e7 o (λe=>isC (E2 e) (.str k))&&(a.ck T sc vs e&&es.ck T sc vs ks l)
 w q K:=a.w q (es.w q K)
 ok {T q c sc vs ks x K s J M} hT hc h:=by
  apply L3 hc;intro o ks hc;apply L3 (P:=λx=>Evk c.g ⟨sc,vs,c.d,q⟩ (o::ks) x (k::es.ks) J M (λl M=>l.length=es.n+1/\K c (l.reverseAux s) J M) (xC c J)) hc
  k_extra"aa"
  refine a7 (i7 h1) λke qa h1=>?_;subst qa
  refine co4 (Y0 h1 ⟨rfl,(a.ok hT h2 h).mono λv M h=>?_⟩)
  exact λA env s pos I=>oO (es.ok hT h3 h A env s pos I) (λps s' p=>by refine p _ ?_;clear p;rintro Vs M' a b c e hh;refine d5 hh λq1 q2=>?_;exact(λN k_=>k_ Vs M' a b c e ⟨congrArg (· + 1) q1,q2⟩)) λN N p=>p
def VR(ks:List Str)(n:Nat)(K:KT):KT:=λc s q M=>C8 n [] s λl s=>New M λa=>K c (.ref a::s) q (upd M a (.ds (ks.zip l)))
def IE.dik(L:IK):IE where
 ck T sc vs x:=e7 (qR x) λt=>t.1.all (·.isSome)&&(decide (t.1.length=t.2.length)&&(!t.1.isEmpty&&(decide (t.1.length<=15)&&(decide (L.ks.Nodup)&&L.ck T sc vs t.1 t.2))))
 w q K:=L.w q (VR L.ks L.n K)
 ok {T q c sc vs x K s J M} hT hc h:=by
  k_extra"S";intro P_ Ma;obtain⟨⟨C,P⟩,e,y⟩:=i7 hc;clear hc;k_extra"bY"
  obtain⟨Z,S,D,X,E,U⟩:=(b9 y).imp id λh=>(b9 h).imp id λh=>(b9 h).imp id λh=>(b9 h).imp id b9;clear y
  refine Ma _ ?_;have Y:C≠[]:=λe=>by rw[e] at D;exact tf D
  exact bn1 Z (f4 S) Y (f4 X) (f4 E) (λA R s pos I=>oO (L.ok hT U h A R s pos I) (λps s' p=>by refine p _ ?_;clear p;rintro F u a b H e Ja;refine d5 Ja λq1 q2=>?_;exact(λN O=>O F u a b H e (D7 (k:=λl s=>New u λa=>K c (.ref a::s) J (upd u a (.ds (L.ks.zip l)))) q1 q2))) λN N p=>p)
section
variable{g:G}{T:Tab}{Q:VP}
theorem yu(D:TabOK g T)(h:qw (T.lookup x)=true):∃ C F,T.lookup x=some (.cls C F)/\XC g x C F:=by
 cases e:T.lookup x with
 | none=>rw[e] at h;exact(bU h).elim
 | some it=>cases it with
  | cls C F=>exact⟨C,F,rfl,D.at' e⟩
  | _=>rw[e] at h;exact(bU h).elim
inductive SubR(g:G)(T:Tab)(b:Bool)(x y:Str):Prop
 | own (C:Addr) (bm:List Value) (C':Addr) (bm':List Value) (hx:XC g x C bm) (hy:XC g y C' bm') (e:T.lookup y=some (.cls C' bm')) (hb:(Value.ref C::bm).contains (.ref C')=b):SubR g T b x y
 | ty (C:Addr) (bm:List Value) (hx:XC g x C bm) (e:T.lookup y=some (.ty "ValueError")) (hb:Bi g y (.type "ValueError")) (e1:b=true):SubR g T b x y
theorem Z0(D:TabOK g T)(h:P7 b (T.lookup x) (T.lookup y)=true):SubR g T b x y:=by
 cases e:T.lookup x with
 | none=>rw[e] at h;exact tf h
 | some it=>cases it with
  | cls C F=>
   rw[e] at h;cases c:T.lookup y with
   | none=>rw[c] at h;exact tf h
   | some it=>cases it with
    | cls u q=>rw[c] at h;exact .own C F u q (D.at' e) (D.at' c) c (eq_of_beq h)
    | ty id=>rw[c] at h;have h:(decide (id = "ValueError")&&b)=true:=h;obtain rfl:id = "ValueError":=f4 (b9 h).1;exact .ty C F (D.at' e) c (D.at' c) (b9 h).2
    | _=>rw[c] at h;exact tf h
  | _=>rw[e] at h;exact tf h
theorem UT{E:List Str}{A B:Prop}(h:Hit x ys E A B)(O:Z6 T y ys E=true):(P7 true (T.lookup x) (T.lookup y)=true/\A)∨(P7 false (T.lookup x) (T.lookup y)=true/\B):=by
 cases h with
 | yes e a=>exact .inl ⟨cX.mp (b9 O).1 x (il.mp e),a⟩
 | no e b=>exact .inr ⟨cX.mp (b9 O).2 x (il.mp e),b⟩
theorem Ai{E:List Str}{K:Bool->Prop}(h:HitB x ys E K)(O:Z6 T y ys E=true):∃ b,P7 b (T.lookup x) (T.lookup y)=true/\K b:=by
 obtain⟨b,Z,S,k⟩:=h;cases b with
 | true=>exact⟨_,cX.mp (b9 O).1 x (il.mp (Z rfl)),k⟩
 | false=>exact⟨_,cX.mp (b9 O).2 x (il.mp (S rfl)),k⟩
end
def cp3(ys E:List Str)(K:KT):KT:=λc s q M=>s1 (λx s=>m5 (λa=>LookX M a λx=>HitB x ys E λb=>K c (.bool b::s) q M) x) s
def IE.isx(a:IE)(y:Str)(ys E:List Str):IE where
 ck T sc vs x:=t9 x (biC T sc (K8 "isinstance") (wI (a.ck T sc vs) (zu (bM8 T sc y ys E))))
 w q K:=a.w q (cp3 ys E K)
 ok {T q c sc vs x K s J M} hT hc h:=by
  k_extra"S";intro P_ Ma;k_extra"f"
  k_extra"g"
  k_extra"aJ"
  k_extra"aB"
  refine a7 (i7 h5) λm e' hc3=>?_;clear h5
  refine d4 (C9 e') λp' qa=>?_;subst qa
  obtain⟨hm,Z,u,ht⟩:=(b9 hc3).imp id λh=>(b9 h).imp id b9;clear hc3
  k_extra"bV"
  refine d5 (p9 Z) λO P=>?_
  have Ja:=a.ok hT h4 h;refine Ma _ ?_;have D:∀ R,pg [e,.Name m p'] R=(false,eval e R)::pg [.Name m p'] R:=λR=>v8 (m7 k3)
  rcases(iu _ _).mp u with u | u
  ·refine i5 (yu hT u) λC' S el L=>MT (M0 hT h2) L.bound h6 O (Ja.mono λv M h=>?_) h7 P D
   k_extra"cT"
   refine a7 (Ai h ht) λb k q=>?_
   cases Z0 hT k with
   | own C F I A U L H Y=>rw[el] at H;cases H;exact ZM e U L Y q
   | ty C F U H=>rw[el] at H;cases H
  ·refine Gw (M0 hT h2) (x3 hT u) h6 O (Ja.mono λv M h=>?_) h7 P D
   k_extra"cT"
   refine a7 (Ai h ht) λb k q=>?_;clear h
   cases Z0 hT k with
   | own C F I A U L H Y=>have:=L.bound;rw[(x3 hT u).1] at this;cases this
   | ty C F U H Y X=>rw[X] at k q;exact aZ6 e U q
def cw2(n:Nat)(A B:KT):KT:=λc s q M=>C8 n [] s λl s=>s1 (λx s=>K5 (λx=>W7 l λu=>Ite (u.any (· == x)) (A c s q M) (B c s q M)) x) s
def IT.inl(a:IE)(L:IEs):IT where
 ck T I y x:=e7 (P6 x) (WY .In (a.ck T I y) (L.ck T I y))
 w q A B:=a.w q (L.w q (cw2 L.n A B))
 ok {T q c I y x A B s E M} D O h:=by
  k_extra"S";intro H Ma;k_extra"T"
  k_extra"aH"
  k_extra"ce"
  obtain rfl:=f4 h1;refine a7 (i7 hc4) λK e F=>?_;clear hc4
  refine d4 (vG e) λJa qa=>?_;subst qa
  have hl:=f4 (b9 F).1;have u:=L.len (b9 F).2;refine Ma _ (Tst.drop (Gg (((a.ok D h2 h).aJ λx M h=>⟨M,Sub.refl _,h⟩).mono λv M h=>xg (((L.ok D (b9 F).2 h).aJ λx M h=>⟨M,Sub.refl _,h⟩).mono λl M ⟨e,h⟩=>⟨v6 (by rw[e,<- u];exact hl),λa u=>?_⟩)) rfl))
  have h:=D7 (k:=λl s=>s1 (λx s=>K5 (λx=>W7 l λC=>Ite (C.any (· == x)) (A c s E M) (B c s E M)) x) s) e h
  refine a7 (wV (show K5 _ v from h)) λx qa h1=>?_;clear h;subst qa
  refine a7 (yp h1) λC qa h2=>?_;clear h1;subst qa
  exact An (d6 _ _ _) (Hb ⟨M,Sub.upd u,h2⟩)
section
variable{g:G}{T:Tab}{vs:List Str}{d:Nat}{q:Bool}{J:Lo}{Q:j5}{X:n9}
theorem Inv.at'{i:Nat}{x:Str}(I:Inv g F A env J M s)(U:F.vars[i]?=some x):∃ w,J[i]?=some w:=by
 have h:=(cj.mp U).1;rw[<- I.loc.len] at h;exact⟨_,bO h⟩
theorem Xo(u:F.vars[i]?=some x)(h:Ev g F e J M (λv c=>Q .next (J.set i (some v)) c) (λx c=>X x J c))
  (P:∀ env,swapsWith e (some (.Name x y)) pos.line env=pure false):Ex g F (.Assign [.Name x y] e pos) J M Q X:=(λA env s I=>by
 refine wpAny_Assign_Name (oO (h A env s I) (λv D p=>?_) λN N p=>p.toS) (P env)
 k_extra"3";rintro V c r Z E q;refine d4 (Z.at' u) λw S=>?_
 exact I5 Z u S r λH U C=>(λN Ja=>Ja .next _ c .next U ((E.mono λN h=>h.elim).trans C) q))
theorem bG9{v:V}{i:Nat}{P:Lo->Prop}(U:F.vars[i]?=some x)(h:P (J.set i (some v))):Asg g F (.Name x p) v J M P:=
 ⟨λA R s C Z E I y r k=>by
  refine d4 (I.at' U) λw S=>?_
  exact wpAny_assign_Name (I5 I U S r λu c D=>k u _ c D h),.inl ⟨x,p,rfl⟩⟩
theorem KQ{v:V}{l:List V}{i:Nat}{P:Lo->Prop}(U:F.vars[i]?=some x)(h:AsgL g F L l (J.set i (some v)) M P):AsgL g F (.Name x p::L) (v::l) J M P:=
 ⟨λA R s c Z E I r k=>by
  exact d4 (I.at' U) λw S=>(bz0 U S h).run A R s c Z E I r k,λR=>by
  show((false,assign (.Name x p) R)::assignEach L R).length=_;rw[dD,h.len R,dD],λR=>by
  show((false,assign (.Name x p) R)::assignEach L R).findIdx? _=none;rw[List.findIdx?_cons,h.star R];rfl⟩
theorem R3(h:K2 vs i x=true):∃ n p,x=.Name n p/\vs[i]?=some n:=by
 apply Y7 h;intro n p h;exact⟨n,p,rfl,f4 h⟩
theorem wY:∀ {L:List Expr} {l:List V} {J:Lo} {P:Lo->Prop},X3 vs c L=true->R5 c l J P->AsgL g ⟨sc,vs,d,q⟩ L l J M P:=by
 induction c with
 | nil=>
  intro L l J P O h;obtain rfl:=dh.mp O;cases l with
  | nil=>exact Jc h
  | cons _ _=>exact h.elim
 | cons i c u=>
  intro L l J P O h;cases L with
  | nil=>exact(bU O).elim
  | cons e L=>
   cases l with
   | nil=>exact h.elim
   | cons v l=>
    refine i5 (R3 (b9 O).1) λn p Ja U=>?_;subst Ja
    exact KQ U (u (b9 O).2 h)
theorem bg9{p' H:Pos}{i:Nat}(js:List Nat)(ok:E6 F scope x js=true)(hq:F.q=true)(Y:F.vars[i]?=some y)
  (h:Itr g F iter J M (λL K sv=>∃ Ja:List V->List V->Hp->Prop,L.length<=sizeLine/\Ja L [] sv/\
   (∀ v l acc M',Ja (v::l) acc M'->K M'/\pG g (C4 F scope x) ifs (some v::s7 J js) M' (λb M2=>(b=true->Ev g (C4 F scope x) elt (some v::s7 J js) M2 (λy M3=>Ja l (acc++[y]) M3) noX)/\(b=false->Ja l acc M2)))/\
   ∀ acc M',Ja [] acc M'->K M'/\∀ a,M' a=none->Q .next (J.set i (some (.ref a))) (upd M' a (.L acc))) (λx sv=>X x J sv)) :
  Ex g F (.Assign [.Name y p'] (.ListComp elt [⟨.Name x px,iter,ifs,0⟩] scope H) pos) J M Q X:=(λA R s I=>by
 refine d4 (@bb4 elt [⟨.Name x px,iter,ifs,0⟩] scope H p' y pos.line R) λb hb=>?_
 cases b with
 | false=>
  refine wpAny_Assign_Name (oO ((Gf (Q:=λv sv=>Q .next (J.set i (some v)) sv) js ok hq h) A R s I) (λv sw p=>?_) λN N p=>p.toS) hb
  refine p _ ?_;clear p;rintro V sv r Z E q;exact d4 (Z.at' Y) λw hw=>I5 Z Y hw r λMa U u=>(λN k_=>k_ .next _ sv .next U ((E.mono λN h=>h.elim).trans u) q)
 | true=>
  rw[exec_Assign_Name_used _ _ _ _ hb];refine oM (wpAny_standAt (oM ?_));show wpAny _ A (comprehension (.ListComp elt [⟨.Name x px,iter,ifs,0⟩] scope H) scope R (firstIterPos [⟨.Name x px,iter,ifs,0⟩] H) (newList []) false (eval iter R) (some (assign (.Name y p') R)) >>= λN=>pure ()) _ _ s
  refine oM (Bu ok hq (λacc M'=>∀ a,M' a=none->Q .next (J.set i (some (.ref a))) (upd M' a (.L acc))) h I (λN N p=>p.toS) λD C acc M' s' hJ hD I' st' hC c O=>d4 hC λm hm=>?_)
  clear hC;refine d4 (I'.at' Y) λw hw=>wpAny_assign_Name (I5 I' Y hw (.ref D) λMa U u=>?_)
  have S:=Ns.kept hm λo e=>by refine a7 (u.keep C o e O (I.aW c)) λo' e' k=>?_;exact⟨o',e',k.data⟩
  refine⟨m,S,λh' P=>oN (oN ?_)⟩
  have st3:=(st'.mono λN h=>h.elim).trans u
  exact(λN k_=>k_ .next _ _ .next (U.but (tk:=Ma.toks) P.extBut (O6 S P) O (I.aW c) (I.aG c) (I.aR c)) (st3.but (tk:=Ma.toks) P.extBut c) (hJ D hD)))
theorem Cm{Q:List V->(Hp->Prop)->Hp->Prop}{X:XP}(h:Ev g F e J M (λv u=>wIt Q u v) X)(Ja:∀ env x,foldedSetIterable e env x=pure x):Itr g F e J M Q X:=
 ⟨λA env s I C=>oO (h A env s I) (λx H p=>by
  refine p _ ?_;clear p;rintro v u r Z E w;cases v with
  | ref a=>
   k_extra"cP";obtain⟨L,c,w⟩:=w;refine a7 ((Z.sim.objs a _ c).1) λvs Ma D=>wpAny_pyIter_list Ma.isList ?_
   exact(λN y=>y _ L _ _ u rfl (bY6 C (ax:=a)) ⟨_,cH _ rfl,rfl,rfl⟩ E.aK Z.sim.fresh (Z.keep Step.push Z.sim.push) E.aY w)
  | tup l=>
   refine k9 r.az λa vs n qa R D=>?_;subst qa
   exact wpAny_pyIter_tuple ⟨_,R,rfl,_,rfl⟩ (λN y=>y _ _ _ _ u rfl (Og C) ⟨⟨_,cH _ rfl,rfl,rfl⟩,bZ _ R,D.mono (Step.push (fr:=inF A) (own:=f7) (M:=M)).ak⟩ E.aK Z.sim.fresh (Z.keep Step.push Z.sim.push) E.aY w)
  | str x=>
   refine d4 r.ofStr λt qa=>?_;subst qa
   cases q:x.cps.all (· < 128) with
   | true=>exact wpAny_pyIter_ascii q (λN y=>y _ _ _ _ u rfl (YQ C) ⟨_,cH _ rfl,rfl,rfl⟩ E.aK Z.sim.fresh (Z.keep Step.push Z.sim.push) E.aY w)
   | false=>exact wpAny_pyIter_wide q (λN y=>y _ _ _ _ u rfl (Ke C) ⟨_,cH _ rfl,rfl,rfl⟩ E.aK Z.sim.fresh (Z.keep Step.push Z.sim.push) E.aY w)
  | _=>exact w.elim) λN N p=>p,Ja⟩
theorem Rng.itr{Q:List V->(Hp->Prop)->Hp->Prop}{X:XP}(h:Rng g F e J M (λa b c w=>c=1/\s5 a/\s5 b/\Q (m6 a 1 (b-a).toNat) (λN=>True) w) X)(Ja:∀ env x,foldedSetIterable e env x=pure x):Itr g F e J M Q X:=by
 refine Rk (λA env s I=>oO (h A env s I) (λx C p=>?_) λN N p=>p) Ja
 k_extra"3";rintro r a b c t u v y Z S D H ⟨rfl,Ma,Y,E⟩;exact(λN K=>K r a b 1 t u v y Z S D H ⟨yV Ma Y,by rw[Cu];exact E⟩)
theorem Qi{Q:Int->Int->Int->Hp->Prop}{X:XP}(hb:Bi g x (.type "range"))(hk:sc.names.lookup x=some .globalImplicit)
  (h:Ev g ⟨sc,vs,d,q⟩ e J M (λv y=>Ev g ⟨sc,vs,d,q⟩ H J y (λw O=>∃ a b,v=.int a/\w=.int b/\Q a b 1 O) X) X) (hd:(x==("__debug__" : Str))=false) (L:∀ env,pg [e,H] env=(false,eval e env)::pg [H] env) (D:∀ env,pg [H] env=(false,eval H env)::pg [] env):Rng g ⟨sc,vs,d,q⟩ (.Call (.Name x P) [e,H] [] pos) J M Q X:=(λA env s I=>by
 k_extra"au";have Ma:(backTo pos (pg [e,H] env)).any (·.1)=false:=by rw[L,D];rfl
 refine callWith_excType Ma (s8 Ma (wpAny_items_cons (oO (h A env s I) (λv K p=>?_) λN N p=>p) (L env)))
 k_extra"3";rintro V y r Z E Ja;refine wpAny_items_cons (oO (Ja A env K Z) (λv' R p=>wpAny_items_nil ?_) λN N p=>p.step E) (D env)
 k_extra"3";rintro V' O r' U C ⟨a,b,u,c,S⟩;subst u c;refine d4 r.ofInt λN qa=>?_;subst qa;refine d4 r'.ofInt λN qa=>?_;subst qa
 refine call_range_2 (λN Y=>Y _ a b 1 _ _ _ O rfl (cH _ rfl) ?_ ?_ S)
 ·exact U.keep (Step.grow λb o e=>bZ _ e) U.sim.push
 ·exact(E.trans C).trans (Step.grow λb o e=>bZ _ e))
theorem Itr.aJ{Q:List V->(Hp->Prop)->Hp->Prop}{X:XP}(h:Itr g F e J M Q X)(k:∀ v M,X v M->y v M):Itr g F e J M Q y:=⟨λA R s I D=>
 oO (h.run A R s I D) (λx C p=>oO p (λN N p=>p) λN N p=>by refine p _ ?_;clear p;rintro x u a b c e;exact(λN w=>w x u a b c (k _ _ e))) (λN N p=>by refine p _ ?_;clear p;rintro x u a b c e;exact(λN w=>w x u a b c (k _ _ e))),h.fold⟩
theorem Wa{Q:j5}(k:∀ f J M,Q f J M->c f J M){J:Lo}(h:F5 Q Ja l f J M):F5 c Ja l f J M:=by
 cases f with
 | next=>exact h
 | cont=>exact h
 | brk=>exact k _ _ _ h
 | ret v=>exact k _ _ _ h
theorem Ex.mono'{s:Stmt}(h:Ex g F s J M Q X)(k:∀ f J M,Q f J M->c f J M):Ex g F s J M c X:=(λA env s I=>
 oO (h A env s I) (λN N p=>by refine p _ ?_;clear p;rintro V J' M' r i y q;exact(λN k_=>k_ V J' M' r i y (k _ _ _ q))) λN N p=>p)
end
def iIt(Ma:List V->(Hp->Prop)->KT):KT:=λc s J M=>s1 (λv s=>wIt (λL P M=>Ma L P c s J M) M v) s
def II.e(a:IE):II where
 ck T sc vs x:=!uO x&&a.ck T sc vs x
 w q Ma:=a.w q (iIt Ma)
 ok D O h:=Cm (a.ok D (b9 O).2 h) λR v=>Ah (m7 (b9 O).1)
def iR1(Ma:List V->(Hp->Prop)->KT):KT:=λc s J M=>s1 (λv s=>D9 (λb=>Req (s5 b) (Ma (m6 0 1 (b-0).toNat) (λz_=>True) c s J M)) v) s
def II.r1(a:IE):II where
 ck T sc vs x:=t9 x (biC T sc (E5 "range") (Q6 (BJ (a.ck T sc vs))))
 w q Ma:=a.w q (iR1 Ma)
 ok {T q c sc vs x Ma s J M} hT hc h:=by
  k_extra"S";intro A y;k_extra"f"
  k_extra"D"
  refine a7 (q9 hc2) λe qa u=>?_;clear hc2;subst qa
  k_extra"af"
  refine y _ ((DG (x3 hT h2) k1 ((a.ok hT (b9 u).2 h).mono λv M h=>?_) k2 λR=>v8 (m7 (b9 u).1)).itr λR x=>rfl)
  obtain⟨b,rfl,Y,k⟩:=N6 (show D9 _ v from h);clear h
  exact⟨b,rfl,rfl,by unfold s5;exact Du,Y,k⟩
def iR2(Ma:List V->(Hp->Prop)->KT):KT:=λc s J M=>s2 (λx y s=>A9 (λa b=>Req (s5 a/\s5 b) (Ma (m6 a 1 (b-a).toNat) (λz_=>True) c s J M)) x y) s
def II.r2(a b:IE):II where
 ck T sc vs x:=t9 x (biC T sc (E5 "range") λas=>two as λe A=>!star e&&(!star A&&(a.ck T sc vs e&&b.ck T sc vs A)))
 w q Ma:=a.w q (b.w q (iR2 Ma))
 ok {T q c sc vs x Ma s J M} hT hc h:=by
  k_extra"S";intro K C;k_extra"f"
  k_extra"D"
  refine i5 (y0 hc2) λe A qa y=>?_;clear hc2;subst qa
  obtain⟨D,H,E,U⟩:=(b9 y).imp id λh=>(b9 h).imp id b9;clear y
  k_extra"af"
  refine C _ ((Qi (x3 hT h2) k1 ((a.ok hT E h).mono λv M h=>(b.ok hT U h).mono λu M h=>?_) k2 (λR=>v8 (m7 D)) (λR=>v8 (m7 H))).itr λR x=>rfl)
  obtain⟨i,j,rfl,rfl,⟨I,Ja⟩,k⟩:=E3 (show A9 _ v u from h);clear h
  exact⟨i,j,rfl,rfl,rfl,I,Ja,k⟩
def Ag:KT:=λc s J M=>s1 (λv N=>c.Q (.ret v) J M) s
def ynQ(yes:VP)(no:Hp->Prop):j5:=λf N M=>match f with
 | .ret v=>yes v M
 | _=>no M
structure IC where
 ck:Tab->Scope->List Str->List Expr->Expr->Bool
 w:Bool->KT
 ok:∀ {T q c sc vs ifs x s J M},TabOK c.g T->ck T sc vs ifs x=true->c.X=F6->w q c s J M->pG c.g ⟨sc,vs,c.d,q⟩ ifs J M λb M=>(b=true->Ev c.g ⟨sc,vs,c.d,q⟩ x J M (λv M=>c.Q (.ret v) J M) noX)/\(b=false->c.Q .next J M)
theorem vO{J:Lo}(e:c.X=F6):xC c J=noX:=by unfold xC;rw[e];rfl
noncomputable def IC.e(a:IE):IC where
 ck T sc vs c x:=c.isEmpty&&a.ck T sc vs x
 w q:=a.w q Ag
 ok D O e h:=by
  obtain rfl:=dh.mp (b9 O).1;exact ZC ⟨λz_=>vO e▸a.ok D (b9 O).2 h,λe=>ft e⟩
def IC.t(t:IT)(a:IE):IC where
 ck T sc vs u x:=one u λy=>t.ck T sc vs y&&a.ck T sc vs x
 w q:=t.w q (a.w q Ag) l7
 ok {T q c sc vs u x s J M} D O e h:=by
  refine a7 (q9 O) λy Ja O=>?_;subst Ja
  refine WK (Tst.mono (vO (J:=J) e▸t.ok D (b9 O).1 h) λb M i=>⟨λA=>vO (J:=J) e▸a.ok D (b9 O).2 (i.1 A),i.2⟩)
inductive CLoop(B K:KT)(js:List Nat)(L:List V)(P:Hp->Prop)(c:Cx)(s:List V)(J:Lo)(M:Hp):Prop
 | mk (Ja:List V->List V->Hp->Prop) (hz:L.length<=10000) (h0:Ja L [] M) (ht:∀ v l acc M',Ja (v::l) acc M'->P M'/\B ⟨c.g,c.d,ynQ (λy M=>Ja l (acc++[y]) M) (λM=>Ja l acc M),F6⟩ [] (some v::s7 J js) M')
   (he:∀ acc M',Ja [] acc M'->P M'/\New M' λa=>K c (.ref a::s) J (upd M' a (.L acc))):CLoop B K js L P c s J M
def zG(w:List Nat)(T:Tab)(u:II)(b:IC)(sc:Scope)(vs:List Str)(t:Expr×List Comprehension×Scope):Bool:=
 one t.2.1 λc=>decide (c.is_async=0)&&e7 (s0 c.target) λy=>E6 ⟨sc,vs,0,true⟩ t.2.2 y w&&(u.ck T sc vs c.iter&&b.ck T (rl t.2.2 sc) (y::w6 t.2.2) c.ifs t.1)
theorem CLoop.use{B:IC}{K:KT}{C:List Nat}{L:List V}{P:Hp->Prop}{c:Cx}{s:List V}{J:Lo}{T:Tab}{q:Bool}{vs:List Str}(D:TabOK c.g T)(H:B.ck T sc vs w x=true)(h:CLoop (B.w q) K C L P c s J M) :
  ∃ Ja:List V->List V->Hp->Prop,L.length<=sizeLine/\Ja L [] M/\(∀ v l A u,Ja (v::l) A u->P u/\pG c.g ⟨sc,vs,c.d,q⟩ w (some v::s7 J C) u (λb O=>(b=true->Ev c.g ⟨sc,vs,c.d,q⟩ x (some v::s7 J C) O (λy Ma=>Ja l (A++[y]) Ma) noX)/\(b=false->Ja l A O)))/\
   ∀ A u,Ja [] A u->P u/\∀ a,u a=none->K c (.ref a::s) J (upd u a (.L A)):=by
 cases h with
 | mk Ja S Y R I=>exact⟨Ja,v6 S,Y,λv l A u E=>⟨(R v l A u E).1,B.ok (c:=⟨c.g,c.d,_,F6⟩) D H rfl (R v l A u E).2⟩,I⟩
def IE.comp(H:List Nat)(E:II)(b:IC):IE where
 ck T sc vs x:=e7 (tH x) (zG H T E b sc vs)
 w q K:=qK q (E.w q (CLoop (b.w q) K H))
 ok {T q c sc vs x K s J M} hT hc h:=by
  k_extra"S";intro Z Ma;apply Gz hc;intro e l I p u;obtain⟨⟨Y,Ja,U,as⟩,rfl,A⟩:=q9 u;clear u;refine d5 (b9 A) λh1 D=>?_;clear A
  obtain rfl:as=0:=f4 h1;apply Y7 (x:=Y) D;intro y py C;refine i4 ((b9 C).imp id b9) λS O R=>?_;clear C
  refine Ma _ ?_;cases q with
  | false=>exact h.elim
  | true=>exact Gf (F:=⟨sc,vs,c.d,true⟩) H S rfl ((E.ok hT O h).mono λL P M h=>h.use hT R)
structure IS where
 ck:Tab->Scope->List Str->Stmt->Bool
 w:Bool->KT->KT
 ok:∀ {T q c sc vs x K s J M},TabOK c.g T->ck T sc vs x=true->w q K c s J M->Ex c.g ⟨sc,vs,c.d,q⟩ x J M (nx K c s) c.X
structure ISs where
 ck:Tab->Scope->List Str->List Stmt->Bool
 w:Bool->KT->KT
 ok:∀ {T q c sc vs x K s J M},TabOK c.g T->ck T sc vs x=true->w q K c s J M->Exs c.g ⟨sc,vs,c.d,q⟩ x J M (nx K c s) c.X
def Xa:KT:=λc s J M=>s1 (λv N=>c.Q (.ret v) J M) s
def IS.ret(e:IE):IS where
 ck T sc vs x:=e7 (vd x) λt=>e7 t (e.ck T sc vs)
 w q _:=e.w q Xa
 ok D O h:=by
  apply Jh O;intro t p c;refine a7 (i7 c) λy Ja u=>?_;clear c;subst Ja
  exact cc5 (e.ok D u h)
def IS.iff(t:IT)(a b:ISs):IS where
 ck T sc vs x:=e7 (tX x) λu=>t.ck T sc vs u.1&&(a.ck T sc vs u.2.1&&b.ck T sc vs u.2.2)
 w q K:=t.w q (a.w q K) (b.w q K)
 ok D O h:=by
  apply Ld O;intro u v w p hc1;k_extra"g"
  exact Li ((t.ok D h1 h).mono λz_ M i=>⟨λe=>a.ok D h2 (i.1 e),λe=>b.ok D h3 (i.2 e)⟩)
def Il(i:Nat)(K:KT):KT:=λc s J M=>s1 (λv s=>K c s (J.set i (some v)) M) s
def IS.asg(i:Nat)(e:IE):IS where
 ck T sc vs x:=e7 (pH x) λt=>one t.1 λn=>K2 vs i n&&(!odd t.2.1&&e.ck T sc vs t.2.1)
 w q K:=e.w q (Il i K)
 ok {T q c sc vs x K s J M} hT hc h:=by
  k_extra"S";intro A Ma;k_extra"x"
  refine i4 ((b9 hc2).imp id b9) λh1 S y=>?_;clear hc2
  refine i5 (R3 h1) λn p qa hx=>?_;clear h1;subst qa
  obtain rfl:t=[.Name n p]:=e2;exact Ma _ (Xo (F:=⟨sc,vs,c.d,q⟩) hx (e.ok hT y h) λR=>HQ (m7 S))
def IS.bh(i:Nat)(Ja:List Nat)(I:II)(b:IC):IS where
 ck T sc vs x:=e7 (pH x) λt=>one t.1 λn=>K2 vs i n&&e7 (tH t.2.1) (zG Ja T I b sc vs)
 w q K:=qK q (I.w q (CLoop (b.w q) (Il i K) Ja))
 ok {T q c sc vs x K s J M} hT hc h:=by
  k_extra"S";intro P_ Ma;k_extra"x"
  refine d5 (b9 hc2) λh1 Y=>?_;clear hc2
  refine i5 (R3 h1) λn p qa hx=>?_;subst qa
  obtain rfl:t=[.Name n p]:=e2;apply Gz (x:=u) Y;intro e l O p A;obtain⟨⟨tg,R,ifs,as⟩,U,C⟩:=q9 A;clear A;obtain rfl:l=[_]:=U;refine d5 (b9 C) λh1 H=>?_;clear C
  obtain rfl:as=0:=f4 h1;apply Y7 (x:=tg) H;intro y py D;refine i4 ((b9 D).imp id b9) λS Z E=>?_;clear D
  refine Ma _ ?_;cases q with
  | false=>exact h.elim
  | true=>exact bg9 (F:=⟨sc,vs,c.d,true⟩) Ja S rfl hx ((I.ok hT Z h).mono λL P M h=>h.use hT E)
def Rv(K:KT):KT:=λc s J M=>s3 (λv a k s=>m5 (λa=>xH M a v (K c s J) k) a) s
def IS.aU(o i e:IE):IS where
 ck T sc vs x:=e7 (pH x) λt=>one t.1 λn=>e.ck T sc vs t.2.1&&e7 (L6 n) λu=>o.ck T sc vs u.1&&i.ck T sc vs u.2
 w q K:=e.w q (o.w q (i.w q (Rv K)))
 ok D hc h:=by
  k_extra"x"
  refine d5 (b9 hc2) λZ y=>?_;clear hc2
  obtain rfl:t=[n]:=e2;apply Y2 (x:=n) y;intro a b p c;refine Mi ((e.ok D Z h).mono λv M h=>(o.ok D (b9 c).1 h).mono λa M h=>(i.ok D (b9 c).2 h).mono λk M h=>?_) λR=>bM0
  refine a7 (s9 (show m5 _ a from h)) λb Ja h=>?_;subst Ja
  exact Xm h
def IS.expr(e:IE):IS where
 ck T sc vs x:=e7 (um x) λy=>!odd y&&e.ck T sc vs y
 w q K:=e.w q (zN K)
 ok D O h:=by
  apply ZL O;intro y p c;exact bn4 (e.ok D (b9 c).2 h) λR=>HQ (m7 (b9 c).1)
def IS.brk:IS where
 ck _ _ _ x:=Eo x
 w _ _:=Ds
 ok D O h:=by refine d4 (Jd O) λp Ja=>?_;subst Ja;exact bR3 h
noncomputable def ISs.nil:ISs where
 ck _ _ _ l:=l.isEmpty
 w _ K:=K
 ok hT hc h:=by obtain rfl:=dh.mp hc;exact Nr h
def ISs.cons(a:IS)(as:ISs):ISs where
 ck T sc vs l:=O9 l λx l=>a.ck T sc vs x&&as.ck T sc vs l
 w q K:=a.w q (as.w q K)
 ok D hc h:=by
  apply L3 hc;intro x l hc;refine bv7 ((a.ok D (b9 hc).1 h).mono' λf J M h=>?_)
  cases f with
  | next=>exact as.ok D (b9 hc).2 h
  | brk=>exact h
  | cont=>exact h
  | ret v=>exact h
def cr7(K:KT):KT:=λc s J M=>Stop (K c s J M)
noncomputable def ISs.stop(a:ISs):ISs where
 ck:=a.ck
 w q K:=cr7 (a.w q K)
 ok D O h:=by obtain⟨h⟩:=(show Stop _ from h);exact a.ok D O h
noncomputable def ISs.any:ISs where
 ck _ _ _ _:=true
 w _ _:=λN N N N=>False
 ok _ _ h:=h.elim
inductive Drop(K:KT)(c:Cx)(s:List V)(J:Lo)(M:Hp):Prop
 | mk {M':Hp} (h:Sub M' M) (k:K c s J M'):Drop K c s J M
noncomputable def ISs.drop(a:ISs):ISs where
 ck:=a.ck
 w q K:=Drop (a.w q K)
 ok D O h:=by cases h with | mk k h=>exact(a.ok D O h).sub k
structure TG where
 ck:List Str->Expr->Bool
 w:V->Lo->(Lo->Prop)->Prop
 ok:∀ {g sc vs d q t v J M P},ck vs t=true->w v J P->Asg g ⟨sc,vs,d,q⟩ t v J M P
def TG.v(i:Nat):TG where
 ck vs t:=K2 vs i t
 w v J P:=P (J.set i (some v))
 ok {g sc vs d q t v J M P} O h:=by
  refine i5 (R3 O) λn p Ja U=>?_;clear O;subst Ja
  exact bG9 (F:=⟨sc,vs,d,q⟩) U h
def TG.t(c:List Nat):TG where
 ck vs t:=e7 (G4 t) (X3 vs c)
 w v J P:=wL (λl=>R5 c l J P) v
 ok O h:=by
  refine a7 (i7 O) λl e O=>j7 (Y4 e) λk p Ja=>?_
  subst Ja;refine a7 (Fq h) λu Ja h=>?_;subst Ja
  exact xr (wY O h)
inductive Loop(W:TG)(B K:KT)(L:List V)(P:Hp->Prop)(c:Cx)(s:List V)(J:Lo)(M:Hp):Prop
 | mk (Ja:List V->Lo->Hp->Prop) (h0:Ja L J M) (ht:∀ v l J' M',Ja (v::l) J' M'->P M'/\W.w v J' λJ''=>B (c.wQ (F5 (nx K c s) Ja l)) s J'' M') (he:∀ J' M',Ja [] J' M'->P M'/\K c s J' M'):Loop W B K L P c s J M
inductive LoopR(W:TG)(B K:KT)(c:Cx)(s:List V)(J:Lo):Addr->Hp->Prop
 | held {M:Hp} {a:Addr} (l:List V) (h:M a=some (.L l)) (k:Loop W B K l (λM=>M a=some (.L l)) c s J M):LoopR W B K c s J a M
 | tmp {M:Hp} {a:Addr} {l:List V} (hn:M a=none) (k:Loop W B K l (λz_=>True) c s J M):LoopR W B K c s J a (upd M a (.L l))
inductive LoopX(W:TG)(B K:KT)(c:Cx)(s:List V)(J:Lo):List V->(Hp->Prop)->Hp->Prop
 | aB {L:List V} {P:Hp->Prop} {M:Hp} (h:Loop W B K L P c s J M):LoopX W B K c s J L P M
 | tmp {L:List V} {M:Hp} {a:Addr} (hn:M a=none) (h:Loop W B K L (λz_=>True) c s J M):LoopX W B K c s J L (λM=>M a=some (.L L)) (upd M a (.L L))
theorem N5{s:List V}{J:Lo}(h:nx l7 c s f J M):c.Q f J M:=by cases f<;>exact h
theorem Gn{W:TG}{b:ISs}{K:KT}{T:Tab}{q:Bool}{c:Cx}{vs:List Str}{t iter:Expr}{s:List V}{J:Lo}(hT:TabOK c.g T)(H:q=true)(R:W.ck vs t=true)(hb:b.ck T sc vs C=true)
  (h:Itr c.g ⟨sc,vs,c.d,q⟩ iter J M (LoopX W (b.w q l7) K c s J) (xC c J)):Ex c.g ⟨sc,vs,c.d,q⟩ (.For t iter C [] pos) J M (nx K c s) c.X:=by
 have go:∀ {Ja:List V->Lo->Hp->Prop} {l:List V} {v:V} {S:Lo} {u:Hp},(W.w v S λA=>b.w q l7 (c.wQ (F5 (nx K c s) Ja l)) s A u)->Asg c.g ⟨sc,vs,c.d,q⟩ t v S u λA=>Exs c.g ⟨sc,vs,c.d,q⟩ C A u (F5 (nx K c s) Ja l) c.X:=
  fun{Ja l v S u} w=>(W.ok R w).mono λA h=>(b.ok (c:=c.wQ (F5 (nx K c s) Ja l)) hT hb h).mono λf J M h=>N5 h
 refine Ex.xdrop (bC6 H ((h.aJ λx M h=>⟨M,Sub.refl _,h⟩).mono λL P sv p=>?_))
 cases p with
 | aB p=>
  obtain⟨Ja,h0,R,Z⟩:=p;refine⟨Ja,h0,λv l S u E=>⟨(R v l S u E).1,(go (R v l S u E).2).mono λA ex=>?_⟩,λS u E=>⟨(Z S u E).1,u,Sub.refl _,(Z S u E).2⟩⟩
  exact(ex.mono λf J M h=>Wa (λf J M h=>⟨M,Sub.refl _,h⟩) h).aJ λf J M h=>⟨M,Sub.refl _,h⟩
 | @tmp O b Y p=>
  obtain⟨Ja,h0,R,Z⟩:=p;refine⟨λl S O=>∃ u,O=upd u b (.L L)/\u b=none/\Ja l S u,⟨O,rfl,Y,h0⟩,?_,?_⟩
  ·rintro v l S _ D;refine f5 D λu I Y E=>?_;clear D;subst I
   refine⟨d6 _ _ _,((go (R v l S u E).2).frame Y).mono λA ex=>?_⟩
   refine((ex.frame Y).mono ?_).aJ ?_
   ·k_extra"b7"
    cases f with
    | next=>exact⟨Ma,rfl,y,H⟩
    | cont=>exact⟨Ma,rfl,y,H⟩
    | brk=>exact⟨Ma,Sub.upd y,H⟩
    | ret v=>exact⟨Ma,Sub.upd y,H⟩
   ·k_extra"b7"
    exact⟨Ma,Sub.upd y,H⟩
  ·rintro S _ D;refine f5 D λu I Y E=>?_;clear D;subst I
   exact⟨d6 _ _ _,u,Sub.upd Y,(Z _ _ E).2⟩
def wLt(W:TG)(B K:KT)(c:Cx)(s:List V)(J:Lo)(M:Hp):V->Prop
 | .tup L=>Loop W B K L (λz_=>True) c s J M
 | .str x=>Loop W B K (I7 x) (λz_=>True) c s J M
 | .ref a=>LoopR W B K c s J a M
 | _=>False
theorem RN{W:TG}{B K:KT}{s:List V}{J:Lo}(h:wLt W B K c s J M v):wIt (LoopX W B K c s J) M v:=by
 cases v with
 | tup L=>exact .aB h
 | str x=>exact .aB h
 | ref a=>cases h with
  | held l e k=>exact⟨l,e,.aB k⟩
  | tmp u k=>exact⟨_,d6 _ _ _,.tmp u k⟩
 | _=>exact h.elim
def Bs(t:TG)(b:ISs)(k:Tab->Scope->List Str->Expr->Bool)(T:Tab)(sc:Scope)(vs:List Str)(x:Stmt):Bool:=e7 (qY x) λu=>u.2.2.2.isEmpty&&(t.ck vs u.1&&(k T sc vs u.2.1&&b.ck T sc vs u.2.2.1))
def iLp(t:TG)(B K:KT):KT:=λc s J M=>s1 (λv s=>wLt t B K c s J M v) s
def IS.loop(t:TG)(a:IE)(b:ISs):IS where
 ck:=Bs t b (II.e a).ck
 w q K:=qK q (a.w q (iLp t (b.w q l7) K))
 ok {T q c sc vs x K s J M} hT hc h:=by
  k_extra"S";intro y Ma;apply uU hc;intro u v bd w p hc1;k_extra"v"
  obtain rfl:w=[]:=dh.mp h1;refine Ma _ ?_;cases q with
  | false=>exact h.elim
  | true=>exact Gn hT rfl h2 h4 (Cm ((a.ok hT (b9 h3).2 h).mono λv M h=>RN h) λR v=>Ah (m7 (b9 h3).1))
def IS.aH(t:TG)(y:II)(b:ISs):IS where
 ck:=Bs t b y.ck
 w q K:=qK q (y.w q (Loop t (b.w q l7) K))
 ok {T q c sc vs x K s J M} hT hc h:=by
  k_extra"S";intro A Ma;apply uU hc;intro u v bd w p hc1;k_extra"v"
  obtain rfl:w=[]:=dh.mp h1;refine Ma _ ?_;cases q with
  | false=>exact h.elim
  | true=>exact Gn hT rfl h2 h4 ((y.ok hT h3 h).mono λL P M h=>.aB h)
inductive LoopZ(is:List Nat)(B K:KT)(a b:Addr)(c:Cx)(s:List V)(J:Lo)(M:Hp):Prop
 | mk (l m:List V) (ha:M a=some (.L l)) (hb:M b=some (.L m)) (Ja:Nat->Lo->Hp->Prop) (h0:Ja 0 J M) (ht:∀ i x y J' M',l[i]?=some x->m[i]?=some y->Ja i J' M'->ZipK a b l m J' M'/\R5 is [x,y] J' λJ''=>B (c.wQ (V0 (nx K c s) Ja (i+1))) s J'' M')
   (he:∀ J' M',Ja (min l.length m.length) J' M'->ZipK a b l m J' M'/\K c s J' M'):LoopZ is B K a b c s J M
def iLz(u:List Nat)(B K:KT):KT:=λc s J M=>s2 (λx y s=>m5 (λa=>m5 (λb=>LoopZ u B K a b c s J M) y) x) s
def IS.loopz(O:List Nat)(x y:IE)(b:ISs):IS where
 ck T sc vs z:=e7 (qY z) λt=>t.2.2.2.isEmpty&&(b.ck T sc vs t.2.2.1&&(e7 (G4 t.1) (X3 vs O)&&t9 t.2.1 λn A=>gl sc n&&(E5 "zip" (T.lookup n)&&two A λu v=>(IEs.cons x (.cons y .nil)).ck T sc vs [u,v])))
 w q K:=qK q (x.w q (y.w q (iLz O (b.w q l7) K)))
 ok {T q c sc vs z K s J M} hT hc h:=by
  apply uU hc;intro t u bd w p C;obtain⟨h1,H,h3,I⟩:=(b9 C).imp id λh=>(b9 h).imp id b9;clear C
  cases q with
  | false=>exact h.elim
  | true=>
   obtain rfl:w=[]:=dh.mp h1;apply wM (x:=t) h3;intro l k p' L;apply Iw (x:=u) I;intro n A np cp D;refine i4 ((b9 D).imp id b9) λY Z k3=>?_;clear D
   apply Ut (l:=A) k3;intro ea eb k4;refine bd4 (F:=⟨sc,vs,c.d,true⟩) rfl (p9 Y).1 (x3 hT Z).1 (x3 hT Z).2 (p9 Y).2 (((IEs.cons x (.cons y .nil)).ok (K:=iLz O (b.w true l7) K) hT k4 h).mono λl M ⟨Ma,h⟩=>?_)
   obtain⟨v,w,rfl⟩:∃ v w,l=[v,w]:=by
    cases l with
    | nil=>cases Ma
    | cons v l=>cases l with
     | nil=>cases Ma
     | cons w l=>cases l with
      | nil=>exact⟨v,w,rfl⟩
      | cons _ _=>cases Ma
   refine a7 (s9 (show m5 _ v from h)) λa P h=>?_;subst P
   refine a7 (s9 h) λa' P h=>?_;subst P
   obtain⟨l,m,ha,U,Ja,h0,ht,E⟩:=h;exact(λz_ k_=>k_ a a' l m rfl ha U Ja h0 (λi x y S R e1 e2 hj=>(ht i x y S R e1 e2 hj).imp id λw=>(xr (wY L w)).mono λJ h=>(b.ok (c:=c.wQ (V0 (nx K c s) Ja (i+1))) hT H h).mono λf J M h=>N5 h) E)
def whQ(Q:j5)(Ja:Nat->Lo->Hp->Prop)(n:Nat):j5:=λf J M=>match f with
 | .next=>∃ m,m<n/\Ja m J M
 | .cont=>∃ m,m<n/\Ja m J M
 | .brk=>Q .next J M
 | .ret v=>Q (.ret v) J M
inductive Whl(B K:KT)(c:Cx)(s:List V)(J:Lo)(M:Hp):Prop
 | mk (Ja:Nat->Lo->Hp->Prop) (n:Nat) (h0:Ja n J M) (ht:∀ n J' M',Ja n J' M'->B (c.wQ (whQ (nx K c s) Ja n)) s J' M'):Whl B K c s J M
def IS.whil(t:IT)(b:ISs):IS where
 ck T sc vs x:=e7 (tL x) λu=>u.2.2.isEmpty&&(t.ck T sc vs u.1&&b.ck T sc vs u.2.1)
 w q K:=Whl (t.w q (b.w q l7) Ds) K
 ok {T q c sc vs z K s J M} hT hc h:=by
  apply abP (x:=z);intro D Ma;apply Rx hc;intro u v w p hc1;k_extra"g"
  obtain rfl:w=[]:=dh.mp h1;obtain⟨Ja,n,Y,y⟩:=h;refine Ma _ ?_;exact Ot Ja Y λn S A C=>(t.ok (c:=c.wQ (whQ (nx K c s) Ja n)) hT h2 (y n S A C)).mono λz_ M i=>⟨λe=>(b.ok (c:=c.wQ (whQ (nx K c s) Ja n)) (K:=l7) hT h3 (i.1 e)).mono λf J M h=>by cases f<;>exact h,i.2⟩
def IS.unp(L:List Nat)(i:Nat):IS where
 ck T sc vs x:=e7 (pH x) λt=>one t.1 λn=>e7 (G4 n) λl=>X3 vs L l&&e7 (s0 t.2.1) λm=>decide (vs[i]?=some m) && !(m==("__debug__" : Str))
 w q K:=qK q λc s J M=>vAt J i λv=>wL (λl=>R5 L l J λJ=>K c s J M) v
 ok {T q c sc vs z K s J M} hT hc h:=by
  apply abP (x:=z);intro S Ma;apply T3 hc;intro t e p u;refine a7 (q9 u) λn E y=>?_;clear u
  obtain rfl:t=[n]:=E;refine a7 (i7 y) λl C A=>?_;clear y
  refine j7 (Y4 C) λk p' Ja=>?_;subst Ja
  refine d5 (b9 A) λZ D=>?_;clear A
  refine a7 (i7 D) λm O H=>?_;clear D
  refine d4 (C9 O) λp2 P=>?_
  obtain rfl:e=_:=P;refine Ma _ ?_;cases q with
  | false=>exact h.elim
  | true=>
   refine a7 (yC h) λv Y I=>?_;clear h
   refine a7 (Fq I) λU Ja I=>?_;subst Ja
   exact Zv (F:=⟨sc,vs,c.d,true⟩) rfl (Di (f4 (b9 H).1) Y (xr (wY Z I)) (m7 (b9 H).2)) (λR=>rfl) (λR=>rfl)
section
variable{g:G}{T:Tab}{vs:List Str}{d:Nat}{q:Bool}{J:Lo}{Q:j5}{X:n9}
theorem QC(hi:vs[i]?=some x)(hj:vs[j]?=some y)(hx:sc.names.lookup x=some .local)(hy:sc.names.lookup y=some .local)(hl:(py.line==px.line)=true)(hxy:([x,y].eraseDups.length != 2)=false)
  (hs:([a,b].any xu)=false) (hf:[a,b].all (ph 8)=false) (hc:[a,b].all (pA 8)=false)
  (h:Ev g ⟨sc,vs,d,true⟩ (.Tuple [a,b] k' p) J M (λv C=>∃ u w,v=.tup [u,w]/\Q .next ((J.set j (some w)).set i (some u)) C) (λx C=>X x J C)) :
  Ex g ⟨sc,vs,d,true⟩ (.Assign [.Tuple [.Name x px,.Name y py] k tpos] (.Tuple [a,b] k' p) pos) J M Q X:=(λA R s I=>by
 have H:∀ z,R.kindOf z=sc.names.lookup z:=λz=>by
  show R.scope.names.lookup z=_;rw[I.scope]
 have hbk:R.blockKind=.function:=by
  unfold Env.blockKind;rw[I.fn];rfl
 refine PyProof.Rows.Assign_Tuple_swapped (names:=[x,y]) (oO (h A R s I) (λv D p=>?_) λN N p=>p.toS) rfl (cg9 hbk (by rw[H];exact hx) (by rw[H];exact hy) hl hxy hs hf hc)
 k_extra"3";rintro V C r Z L hh;refine i5 hh λu w Ja hQ=>?_;clear hh;rw[Ja] at r
 refine k9 r.az λt us n Ja ht rl=>?_;subst Ja
 have e:us.size=2:=by rw[<- cB,rl.length];rfl
 have hun:∀ (Q':List Value->Shared->Prop) (E:Value->Shared->Prop),(∀ P,Heap.ExtBut D.heap.objs.size D.heap P->Q' us.toList {D with heap:=P})->wpAny (model g.prog g.w) A (unpackItems (.ref t) 2 none) Q' E D:=λQ' E hq=>by
  have:=unpackItems_tuple (E:=E) (prog:=g.prog) (w:=g.w) (Z.quiet rfl) (t:=t) (items:=us) ⟨_,ht,rfl,_,rfl⟩ hq;rw[e] at this;exact this
 refine hun _ _ λP hx'=>?_
 have hk:∀ b o,D.heap.get? b=some o->P.get? b=some o:=λb o eb=>hx' b o (dU (dJ eb)) eb
 have K:∀ c,Step (inF A) c C C D {D with heap:=P}:=λc=>Step.grow (tk:=D.toks) hk
 have U:=Z.keep (K f7) (Z.sim.grow hk);have rl':=rl.mono (K f7).ak;generalize us.toList=ul at rl' ⊢;refine g6 rl'.two λv1 v2 Ja r1 r2=>?_;subst Ja
 refine d4 (U.at' hj) λw1 e1=>?_
 show wpAny _ A (do holding _ (bindName R y v2);assignInOrder [bindName R x] [v1]) _ _ _
 refine oM (oX (mX (I5 U hj e1 r2 λs₃ Y S=>d4 (Y.at' hi) λw2 e2=>?_)))
 show wpAny _ A (do holding _ (bindName R x v1);assignInOrder [] []) _ _ _
 refine oM (oX (mX (I5 Y hi e2 (r1.mono S.ak) λs4 O Ma=>?_)))
 exact oN (λN k_=>k_ .next _ C .next O ((((L.mono λN h=>h.elim).trans (K _)).trans S).trans Ma) hQ))
theorem bb0{Q:VP}{X:XP}(Ma:star a=false)(Y:star b=false)(h:Ev g F a J M (λu M=>Ev g F b J M (λw M=>Q (.tup [u,w]) M) X) X):Ev g F (.Tuple [a,b] k p) J M Q X:=
 Ad (W0 (h.mono λu M h=>W0 (h.mono λw M h=>sW ⟨(by decide:2<=sizeLine),h⟩) (λN N=>rfl) λR=>v8 Y) (λR p=>by rw[v8 Y];rfl) λR=>v8 Ma)
theorem Pz{J:Lo}{vs:List Str}(h:J.length=vs.length):(J.map λz_=>none)=bY vs.length (none:Option V):=by rw[<- h];exact List.map_const' ..
theorem Jv(h:J.length=F.vars.length->Hnd g F P x J M Q X):Hnd g F P x J M Q X:=(λA R s c u e I D f=>(h I.loc.len) A R s c u e I D f)
end
def ci4(i j:Nat)(K:KT):KT:=λc s J M=>s2 (λu w s=>K c s ((J.set j (some w)).set i (some u)) M) s
def IS.swap(i j:Nat)(a b:IE):IS where
 ck T sc vs x:=e7 (pH x) λt=>one t.1 λn=>e7 (G4 n) λl=>two l λm n=>K2 vs i m&&(K2 vs j n&&((n.pos.line==m.pos.line)&&(decide (sc.names.lookup ((s0 m).getD default)=some .local)&&(decide (sc.names.lookup ((s0 n).getD default)=some .local)&&(!([(s0 m).getD default,(s0 n).getD default].eraseDups.length != 2) &&
   e7 (G4 t.2.1) λl=>two l λu w=>!([u,w].any xu)&&(!([u,w].all (ph 8))&&(!([u,w].all (pA 8))&&(!star u&&(!star w&&(a.ck T sc vs u&&b.ck T sc vs w))))))))))
 w q K:=qK q (a.w q (b.w q (ci4 i j K)))
 ok {T q c sc vs z K s J M} hT hc h:=by
  apply abP (x:=z);intro P_ Ma;k_extra"x"
  obtain rfl:t=[n]:=e2;apply wM (x:=n) hc2;intro l k tp A;refine i5 (y0 A) λm n Ja C=>?_;clear A;subst Ja
  obtain⟨Z,S,R,U,h5,h6,D⟩:=xT C;clear C;refine i5 (R3 Z) λmx mp Ja hm=>?_;clear Z;subst Ja
  refine i5 (R3 S) λnx np Ja hn=>?_;clear S;subst Ja
  refine a7 (i7 D) λl P y=>?_;clear D
  refine j7 (Y4 P) λk' tp' Y=>?_
  obtain rfl:u=_:=Y;refine i5 (y0 y) λea eb Ja E=>?_;clear y;subst Ja
  obtain⟨h7,h8,h9,H,I,L,O⟩:=xT E;clear E;refine Ma _ ?_;cases q with
  | false=>exact h.elim
  | true=>
   exact QC hm hn (f4 U) (f4 h5) R (m7 h6) (m7 h7) (m7 h8) (m7 h9) (bb0 (m7 H) (m7 I) ((a.ok hT L h).mono λu M h=>(b.ok hT O h).mono λw M h=>⟨u,w,rfl,h⟩))
def Xv(x:Str):KT:=λc N J M=>c.X x J M
def IS.aL(y:Str)(L:IEs):IS where
 ck T sc vs x:=e7 (sp x).aL λu=>u.2.isNone&&e7 u.1 λc=>t9 c λn A=>decide (n=y)&&(gl sc n&&(qw (T.lookup n)&&(decide (A.length<20)&&L.ck T sc vs A)))
 w q _:=qK q (L.w q (Xv y))
 ok {T q c sc vs z K s J M} hT hc h:=by
  apply abP (x:=z);intro P_ Ma;apply Ol hc;intro a b p hc1;refine d5 (b9 hc1) λh0 hc2=>?_;clear hc1
  obtain rfl:b=none:=fM.mp h0;refine a7 (i7 hc2) λJa I D=>?_;clear hc2
  obtain rfl:a=some Ja:=I;refine v3 (u0 D) λn A np p' O H=>?_;clear D
  obtain rfl:Ja=_:=O;obtain⟨Z,S,P,R,E⟩:=(b9 H).imp id λh=>(b9 h).imp id λh=>(b9 h).imp id b9;clear H
  obtain rfl:n=y:=f4 Z;refine i5 (yu hT P) λC bm N U=>d5 (p9 S) λY k2=>?_
  refine Ma _ ?_;have hl:=f4 R;have hn:=L.len E;cases q with
  | false=>exact h.elim
  | true=>exact Wo U Y rfl k2 ((L.ok hT E h).mono λl M h=>⟨v6 (by have:=h.1;lia),h.2⟩)
structure IHs where
 ck:Tab->Scope->List Str->List ExceptHandler->Bool
 w:KT->Str->KT
 ok:∀ {T q c sc vs l x K s J M},TabOK c.g T->J.length=vs.length->ck T sc vs l=true->w K x c s J M->Hnd c.g ⟨sc,vs,c.d,q⟩ l x J M (nx K c s) c.X
noncomputable def IHs.nil:IHs where
 ck _ _ _ l:=l.isEmpty
 w _ x:=λc s J M=>c.X x J M
 ok D _ O h:=by obtain rfl:=dh.mp O;exact cn4 h
def RD(T:Tab)(sc:Scope)(vs:List Str)(y:Str)(ys E:List Str)(n:Option Nat)(b:ISs)(h:ExceptHandler):Bool:=
 e7 (sV h).1 (λe=>e7 (s0 e) λm=>decide (m=y)&&(gl sc m&&(qw (T.lookup m)&&Z6 T m ys E)))&&(hNm sc vs n (sV h).2.1&&(!(sV h).2.2.isEmpty&&b.ck T sc vs (sV h).2.2))
def hSu(n:Option Nat)(B K:KT)(x:Str):KT:=λc s J M=>match n with
 | none=>B ⟨c.g,c.d,nx K c s,F6⟩ s J M
 | some i=>New M λa=>B ⟨c.g,c.d,λf N u=>nx K c s f (J.map λN=>none) u,F6⟩ s (J.set i (some (.ref a))) (upd M a (.ex x))
def IHs.cons(y:Str)(ys ns:List Str)(n:Option Nat)(b:ISs)(r:IHs):IHs where
 ck T sc vs l:=O9 l λh l=>RD T sc vs y ys ns n b h&&r.ck T sc vs l
 w K x:=λc s J M=>Hit x ys ns (hSu n (b.w false l7) K x c s J M) (r.w K x c s J M)
 ok {T q c sc vs l x K s J M} hT hl hc h:=by
  apply abP (x:=l);intro P_ Ma;apply L3 hc;intro hd l hc;obtain⟨t,nm,bd,p⟩:=hd;refine d5 (b9 hc) λA h5=>?_;clear hc
  obtain⟨u,S,h3,h4⟩:=(b9 A).imp id λh=>(b9 h).imp id b9;clear A
  refine a7 (i7 u) λe E D=>?_;clear u
  obtain rfl:t=some e:=E;refine a7 (i7 D) λm e2 H=>?_;clear D
  refine d4 (C9 e2) λnp qa=>?_;subst qa
  obtain⟨h6,h7,h8,h9⟩:=(b9 H).imp id λh=>(b9 h).imp id b9;clear H
  refine d5 (p9 h7) λP R=>?_;clear h7
  refine Ma _ ?_;cases bd with
  | nil=>exact(bU h3).elim
  | cons Z bd=>
   rcases UT h h9 with ⟨k,w⟩ | ⟨k,w⟩
   ·cases Z0 hT k with
    | own C Ja C' O U L I Y=>
     cases n with
     | none=>cases nm with
      | none=>exact bj0 (F:=⟨sc,vs,c.d,q⟩) U L P R Y ((b.ok (c:=⟨c.g,c.d,nx K c s,F6⟩) hT h4 w).mono λf J M h=>N5 h)
      | some _=>exact(bU S).elim
     | some i=>cases nm with
      | none=>exact(bU S).elim
      | some z=>
       have hi:=f4 (b9 S).1;refine br2 (F:=⟨sc,vs,c.d,q⟩) U L P R Y hi (bO (hl▸((cj.mp hi).1))) (f4 (b9 S).2) λa ha=>(b.ok (c:=⟨c.g,c.d,_,F6⟩) hT h4 (w a ha)).mono λf J' M' r=>?_
       rw[<- Pz hl];exact(N5 r)
    | ty C Ja U I Y E=>rw[I] at h8;exact tf h8
   ·cases Z0 hT k with
    | own C Ja C' O U L I Y=>exact Vj (F:=⟨sc,vs,c.d,q⟩) U L P R Y (r.ok hT hl h5 w)
    | ty C Ja U I Y E=>cases E
def IS.tri(b:ISs)(P:IHs):IS where
 ck T sc vs x:=e7 (sp x).tri λu=>u.2.2.1.isEmpty&&(u.2.2.2.isEmpty&&(!u.2.1.isEmpty&&(b.ck T sc vs u.1&&P.ck T sc vs u.2.1)))
 w q K:=λc s J M=>b.w q l7 ⟨c.g,c.d,nx K c s,λx J M=>P.w K x c s J M⟩ s J M
 ok {T q c sc vs z K s J M} hT hc h:=by
  apply abP (x:=z);intro C Ma;apply VJ hc;intro bd l Ja A p hc1;k_extra"aK"
  obtain rfl:Ja=[]:=dh.mp h1;obtain rfl:A=[]:=dh.mp h2;refine Ma _ ?_;cases l with
  | nil=>exact(bU h3).elim
  | cons y l=>exact Td (((b.ok (c:=⟨c.g,c.d,nx K c s,λx J M=>P.w K x c s J M⟩) hT h4 h).mono λf J M h=>N5 h).aJ λx J M w=>Jv λhl=>P.ok hT hl h5 w)
structure NmT(P:Program)(T:Tab)(g:G):Prop where
 prog:g.prog=P
 tab:TabOK g T
structure Pb(P:Program)(T:Tab)(n:Nat)(c:Cx):Prop where
 N:NmT P T c.g
 d:n<=c.d
structure Pk(P:Program)(T:Tab)(g:G)(n:Nat)(Q:VP)(X:XP)(c:Cx):Prop where
 N:NmT P T c.g
 e:c.g=g
 d:n<=c.d
 r:∀ {v J M M'},Sub M' M->Q v M'->c.Q (.ret v) J M
 x:∀ {x J M},X x M->c.X x J M
noncomputable def fnK:Option Item->Option Nat
 | some (.fn k)=>some k
 | some (.mth k)=>some k
 | _=>none
noncomputable def qI(f:PySem.DefRec):List Str:=f.params.args.map (·.arg)++((f.scope.names.filter λx=>(x.2==.local||x.2==.cell) && !(f.params.args.map (·.arg)).contains x.1).map (·.1))
def f6(T:Tab)(P:Program)(f:Str)(k m n:Nat)(q:ISs):Bool:=
 (fnK (T.lookup f)==some k)&&(wu (dAt P k).params (dAt P k).scope (qI (dAt P k))&&(q.ck T (dAt P k).scope (qI (dAt P k)) (dAt P k).body&&(((dAt P k).params.args.length==n)&&((qI (dAt P k)).length==m))))
def Bnd(q:PySem.DefRec)(n:Nat):Prop:=∀ nm y Ja u R L,L.length=n->bindArgs (D6 nm y q.params q.body q.scope Ja u R) ⟨L,[]⟩=pure ((q.params.args.map (·.arg)).zip L)
noncomputable def ini:Nat->List V->Lo
 | 0,_=>[]
 | n+1,x::l=>some x::ini n l
 | n+1,[]=>none::ini n []
theorem yU:∀ m,ini m []=bY m none
 | 0=>rfl
 | m+1=>congrArg (none :: ·) (yU m)
theorem Qa:∀ {m:Nat},as.length<=m->ini m as=as.map some++bY (m-as.length) none:=by
 induction as with
 | nil=>exact fun{m} _=>yU m
 | cons x l ih=>
  intro m h;cases m with
  | zero=>cases h
  | succ m=>rw[dD,Nat.add_sub_add_right];exact congrArg (some x :: ·) (ih (jw h))
theorem RQ{g:G}{T:Tab}(D:TabOK g T)(h:(fnK (T.lookup f)==some k)=true):FnAt g f (dAt g.prog k).params (dAt g.prog k).body (dAt g.prog k).scope:=by
 have h:=eq_of_beq h;cases e:T.lookup f with
 | none=>rw[e] at h;exact i6 h
 | some q=>
  rw[e] at h;cases q with
  | fn j=>have h:=d7 h;subst h;exact(D.at' e).1
  | mth j=>have h:=d7 h;subst h;exact D.at' e
  | _=>exact i6 h
theorem bdn{P:Program}{T:Tab}{g:G}{n:Nat}{Q:VP}{X:XP}(N:NmT P T g)(O:f6 T P f k m as.length C=true)(Y:Bnd (dAt P k) as.length)(hD:n+1<=D)
  (h:∀ c,Pk P T g n Q X c->(∀ {J M M'},Sub M' M->Q .none M'->c.Q .next J M)->C.w q l7 c [] (ini m as) M):d8 g D q f as M Q X:=by
 obtain⟨U,u⟩:=N;subst U;obtain⟨Z,S,I,L,E⟩:=(b9 O).imp id λh=>(b9 h).imp id λh=>(b9 h).imp id b9;clear O
 obtain⟨d,rfl⟩:∃ d,D=d+1:=⟨D-1,by exact(kI (bN (cT ..) hD)).symm⟩
 have Ma:=eq_of_beq L;have F:=eq_of_beq E;have y:as.length<=m:=by rw[<- Ma,<- F];unfold qI;rw[cC,bQ];exact eG _ _
 have w:=h ⟨g,d,λf j M=>∃ M',Sub M' M/\Q (HB f) M',λx j M=>X x M⟩ ⟨⟨rfl,u⟩,rfl,jw hD,fun{v J M M'} s q=>⟨M',s,q⟩,λq=>q⟩ fun{J M M'} s q=>⟨M',s,q⟩
 rw[Qa y,<- F] at w;exact ct2 (RQ u Z) S Ma (λnm qn Ja H R us e=>Y nm qn Ja H R us (e.trans Ma)) ((C.ok (c:=⟨g,d,_,_⟩) u I w).mono λfl J' M' p=>N5 p)
theorem bd{P:Program}{T:Tab}{g:G}{n:Nat}{Q:VP}{X:XP}(N:NmT P T g)(O:f6 T P f k m as.length u=true)(Y:Bnd (dAt P k) as.length)(hD:n+1<=D)
  (h:∀ c,Pk P T g n Q X c->u.w q l7 c [] (ini m as) M):d8 g D q f as M Q X:=bdn N O Y hD λc p j=>h c p
theorem Af{P:List Value->Prop}(h:∀ a,P [a])(L:List Value)(e:L.length=1):P L:=by
 cases L with
 | nil=>cases e
 | cons a L=>cases L with
  | nil=>exact h a
  | cons _ _=>cases e
theorem xG{P:List Value->Prop}(h:∀ a b,P [a,b])(L:List Value)(e:L.length=2):P L:=by
 cases L with
 | nil=>cases e
 | cons a L=>exact Af (P:=λL=>P (a::L)) (h a) L (Nat.succ.inj e)
theorem zH{P:List Value->Prop}(h:∀ a b c,P [a,b,c])(L:List Value)(e:L.length=3):P L:=by
 cases L with
 | nil=>cases e
 | cons a L=>exact xG (P:=λL=>P (a::L)) (h a) L (Nat.succ.inj e)
theorem xP{P:List Value->Prop}(h:∀ a b c d,P [a,b,c,d])(L:List Value)(e:L.length=4):P L:=by
 cases L with
 | nil=>cases e
 | cons a L=>exact zH (P:=λL=>P (a::L)) (h a) L (Nat.succ.inj e)
theorem Em{P:List Value->Prop}(h:∀ a b c d e,P [a,b,c,d,e])(L:List Value)(e:L.length=5):P L:=by
 cases L with
 | nil=>cases e
 | cons a L=>exact xP (P:=λL=>P (a::L)) (h a) L (Nat.succ.inj e)
theorem vs7{P:List Value->Prop}(h:∀ a b c d e f g,P [a,b,c,d,e,f,g])(L:List Value)(e:L.length=7):P L:=by
 cases L with
 | nil=>cases e
 | cons a L=>cases L with
  | nil=>cases e
  | cons b L=>exact Em (P:=λL=>P (a::b::L)) (h a b) L (Nat.succ.inj (Nat.succ.inj e))
section
variable{P:Program}{T:Tab}{g:G}{n:Nat}{Q:VP}{X:XP}{c:Cx}{A B:Prop}
theorem Pk.h(p:Pk P T g n Q X c){J:Lo}(h:Q v M):c.Q (.ret v) J M:=p.r (Sub.refl _) h
theorem Pk.b(p:Pk P T g n Q X c){b:Bool}{J:Lo}(e:a=b)(h:Q (.bool b) M):c.Q (.ret (.bool a)) J M:=by subst e;exact p.h h
theorem Pk.dd(p:Pk P T g n Q X c)(h:k<=n):k<=c.d:=bN h p.d
theorem Pb.dd(p:Pb P T n c)(h:k<=n):k<=c.d:=bN h p.d
theorem Lk(Z:b=true->A)(S:b=false->B):Ite b A B:=⟨Z,S⟩
theorem bi1(h:A):Ite true A B:=⟨λz_=>h,λe=>ft e⟩
theorem Ys(h:B):Ite false A B:=⟨λe=>tf e,λz_=>h⟩
theorem Mg(h:Ite b B A):Ite (!b) A B:=by
 cases b with
 | true=>exact⟨λe=>tf e,λz_=>h.1 rfl⟩
 | false=>exact⟨λz_=>h.2 rfl,λe=>ft e⟩
theorem bZ3(Y:b=true)(h:A):Ite b A B:=⟨λz_=>h,λe=>ft (Y.symm.trans e)⟩
theorem Qs(Y:b=false)(h:B):Ite b A B:=⟨λe=>tf (Y.symm.trans e),λz_=>h⟩
theorem bI6{p:Prop}[Decidable p](Z:p->A)(S:¬ p->B):Ite (decide p) A B:=⟨λh=>Z (f4 h),λh=>S (of_decide_eq_false h)⟩
theorem ba9{b:Int}(Z:a=b->A)(S:a≠b->B):Ite (a==b) A B:=⟨λh=>Z (beq_iff_eq.mp h),λh=>S (beq_eq_false_iff_ne.mp h)⟩
theorem Kf{b:Int}(Z:a≠b->A)(S:a=b->B):Ite (a != b) A B:=⟨λh=>Z (bne_iff_ne.mp h),λh=>S (bne_eq_false_iff_eq.mp h)⟩
theorem bN9{b:Nat}(Z:a=b->A)(S:a≠b->B):Ite (a==b) A B:=⟨λh=>Z (beq_iff_eq.mp h),λh=>S (beq_eq_false_iff_ne.mp h)⟩
theorem cv0{b:Str}(Z:a=b->A)(S:a≠b->B):Ite (a==b) A B:=⟨λh=>Z (beq_iff_eq.mp h),λh=>S (beq_eq_false_iff_ne.mp h)⟩
theorem WN{b:Str}(Z:a≠b->A)(S:a=b->B):Ite (a != b) A B:=⟨λh=>Z (bne_iff_ne.mp h),λh=>S (bne_eq_false_iff_eq.mp h)⟩
theorem Vi{b:Bool}(Z:a≠b->A)(S:a=b->B):Ite (a != b) A B:=⟨λh=>Z (bne_iff_ne.mp h),λh=>S (bne_eq_false_iff_eq.mp h)⟩
end
theorem K9(P:V->Prop){n:Int}{K:V->Prop}(Y:0<=n)(Z:n<l.length)(q:∀ x∈l,P x)(h:∀ x,P x->K x):Pick l n K:=
 ⟨Y,Z,λx e=>h x (q x (cA e))⟩
theorem Te{P:Nat->V->Prop}:∀ {i j:Nat} {x:V},S0 P i l->l[j]?=some x->P (i+j) x:=by
 induction l with
 | nil=>intro i j x _ e;cases e
 | cons y l ih=>
  intro i j x h e;cases j with
  | zero=>have e:=d7 e;subst e;exact h.1
  | succ j=>
   have:=ih (j:=j) h.2 e;rw[gK,jL 1 j] at this;exact this
theorem cp1{n:Int}{K:V->Prop}(Y:0<=n)(Z:n<l.length)(h:S0 (λi x=>n=(i:Nat)->K x) 0 l):Pick l n K:=
 ⟨Y,Z,λx e=>Te (P:=λi x=>n=(i:Nat)->K x) h e (by rw[jP];exact(dN Y).symm)⟩
section
variable{PP:Program}{TT:Tab}{gg:G}{n:Nat}{QQ:VP}{W:TG}{B K:KT}{c:Cx}{s:List V}{J:Lo}
theorem Loop.g{P:Hp->Prop}(p:Pk PP TT gg n QQ XX c)(I:List V->Lo->Hp->Prop)(Y:I L J M)
  (k:∀ u,Pk PP TT gg n QQ XX u->(∀ {J M},K c s J M->u.Q .brk J M)->∀ v l,(∀ {J M},I l J M->u.Q .next J M)->∀ S M',I (v::l) S M'->P M'/\W.w v S λq=>B u s q M')
  (w:∀ S M',I [] S M'->P M'/\K c s S M'):Loop W B K L P c s J M:=
 .mk I Y (λv l S M' h=>k (c.wQ (F5 (nx K c s) I l)) ⟨p.N,p.e,p.d,λa b=>p.r a b,p.x⟩ (λh=>h) v l (λh=>h) S M' h) w
inductive RJ(a b:Int)(Ja:Nat->Lo->Hp->Prop):List V->Lo->Hp->Prop
 | mk {J:Lo} {M:Hp} (i:Nat) (e:i<=(b-a).toNat) (k:Ja i J M):RJ a b Ja ((m6 a 1 (b-a).toNat).drop i) J M
theorem RJ.inv{J:Lo}(h:RJ a b Ja l J M):∃ i,i<=(b-a).toNat/\l=(m6 a 1 (b-a).toNat).drop i/\Ja i J M:=by
 cases h with | mk i e k=>exact⟨i,e,rfl,k⟩
theorem uR{b:Int}{i:Nat}(h:a+i<b):i+1<=(b-a).toNat:=by lia
theorem x2{b:Int}(p:Pk PP TT gg n QQ XX c)(I:Nat->Lo->Hp->Prop)(Y:I 0 J M)
  (k:∀ u,Pk PP TT gg n QQ XX u->(∀ {J M},K c s J M->u.Q .brk J M)->∀ i:Nat,a+i<b->(∀ {J M},I (i+1) J M->u.Q .next J M)->∀ S M',I i S M'->W.w (.int (a+i)) S λq=>B u s q M')
  (D:∀ S M',I (b-a).toNat S M'->K c s S M'):Loop W B K (m6 a 1 (b-a).toNat) (λz_=>True) c s J M:=by
 refine Loop.g p (RJ a b I) (.mk 0 (cP _) Y) (λu E C v l x S M' h=>?_) λS M' h=>?_
 ·refine f5 h.inv λi e hl y=>i4 (yL hl) λZ Ja F=>?_
  subst Ja;rw[F] at x h hl;have w:=lD (Int.lt_toNat.mp Z);exact⟨trivial,k u E C i w (λh=>x (.mk _ (uR w) h)) S M' y⟩
 ·refine f5 h.inv λi e hl k=>?_;clear h
  obtain rfl:=xJ e hl;exact⟨trivial,D S M' k⟩
theorem CLoop.g{P:Hp->Prop}(p:Pk PP TT gg n QQ XX c)(I:List V->List V->Hp->Prop)(hz:L.length<=10000)(Y:I L [] M)
  (k:∀ q,Pb PP TT n q->∀ v l acc,(∀ {y J M},I l (acc++[y]) M->q.Q (.ret y) J M)->(∀ {J M},I l acc M->q.Q .next J M)->∀ M',I (v::l) acc M'->P M'/\B q [] (some v::s7 J u) M')
  (w:∀ acc M',I [] acc M'->P M'/\New M' λa=>K c (.ref a::s) J (upd M' a (.L acc))):CLoop B K u L P c s J M:=
 .mk I hz Y (λv l acc M' h=>k ⟨c.g,c.d,ynQ (λy M=>I l (acc++[y]) M) (λM=>I l acc M),F6⟩ ⟨p.N,p.d⟩ v l acc (λh=>h) (λh=>h) M' h) w
inductive CJ(a b:Int)(Ja:Nat->List V->Hp->Prop):List V->List V->Hp->Prop
 | mk {acc:List V} {M:Hp} (i:Nat) (e:i<=(b-a).toNat) (k:Ja i acc M):CJ a b Ja ((m6 a 1 (b-a).toNat).drop i) acc M
theorem CJ.inv(h:CJ a b Ja l acc M):∃ i,i<=(b-a).toNat/\l=(m6 a 1 (b-a).toNat).drop i/\Ja i acc M:=by
 cases h with | mk i e k=>exact⟨i,e,rfl,k⟩
theorem Y1{a b:Int}(p:Pk PP TT gg n QQ XX c)(I:Nat->List V->Hp->Prop)(hz:b-a<=10000)(Y:I 0 [] M)
  (k:∀ q,Pb PP TT n q->∀ (i:Nat) acc,a+i<b->(∀ {y J M},I (i+1) (acc++[y]) M->q.Q (.ret y) J M)->(∀ {J M},I (i+1) acc M->q.Q .next J M)->∀ M',I i acc M'->B q [] (some (.int (a+i))::s7 J w) M')
  (D:∀ acc M',I (b-a).toNat acc M'->New M' λa=>K c (.ref a::s) J (upd M' a (.L acc))):CLoop B K w (m6 a 1 (b-a).toNat) (λz_=>True) c s J M:=by
 refine CLoop.g p (CJ a b I) (by rw[O2];exact iJ.mpr hz) (.mk 0 (cP _) Y) (λq E v l acc Z S M' h=>?_) λacc M' h=>?_
 ·refine f5 h.inv λi e hl C=>i4 (yL hl) λx Ja F=>?_
  subst Ja;subst F;have u:=lD (Int.lt_toNat.mp x);exact⟨trivial,k q E i acc u (λh=>Z (.mk _ (uR u) h)) (λh=>S (.mk _ (uR u) h)) M' C⟩
 ·refine f5 h.inv λi e hl k=>?_;clear h
  obtain rfl:=xJ e hl;exact⟨trivial,D acc M' k⟩
theorem Whl.g(p:Pk PP TT gg n QQ XX c)(I:Nat->Lo->Hp->Prop)(m:Nat)(Y:I m J M)
  (k:∀ q,Pk PP TT gg n QQ XX q->(∀ {J M},K c s J M->q.Q .brk J M)->∀ m,(∀ {j J M},j<m->I j J M->q.Q .next J M)->∀ S M',I m S M'->B q s S M'):Whl B K c s J M:=
 .mk I m Y λm S M' h=>k (c.wQ (whQ (nx K c s) I m)) ⟨p.N,p.e,p.d,λa b=>p.r a b,p.x⟩ (λh=>h) m (fun{j J M} Z u=>⟨j,Z,u⟩) S M' h
theorem LoopZ.g(p:Pk PP TT gg n QQ XX c)(Ma:M a=some (.L l))(D:M b=some (.L m))(I:Nat->Lo->Hp->Prop)(Y:I 0 J M)
  (k:∀ u,Pk PP TT gg n QQ XX u->∀ i x y,(∀ {J M},I (i+1) J M->u.Q .next J M)->∀ S M',l[i]?=some x->m[i]?=some y->I i S M'->ZipK a b l m S M'/\R5 w [x,y] S λq=>B u s q M')
  (F:∀ S M',I (min l.length m.length) S M'->ZipK a b l m S M'/\K c s S M'):LoopZ w B K a b c s J M:=
 .mk l m Ma D I Y (λi x y S M' E C h=>k (c.wQ (V0 (nx K c s) I (i+1))) ⟨p.N,p.e,p.d,λa b=>p.r a b,p.x⟩ i x y (λh=>h) S M' E C h) F
end
noncomputable def Hk(n:Str):Option Item->Bool
 | some (.ob A _)=>A.contains n
 | _=>false
noncomputable def vX(n f:Str):Option Item->Bool
 | some (.ob _ c)=>c.contains (n,f)
 | _=>false
noncomputable def Ff:Option Item->Bool
 | some (.mth _)=>true
 | _=>false
section
variable{g:G}{T:Tab}
theorem aM3(hT:TabOK g T)(h:Hk n (T.lookup x)=true):∃ as ms,OCl g x as ms/\n∈as:=by
 cases e:T.lookup x with
 | none=>rw[e] at h;exact tf h
 | some it=>cases it with
  | ob as ms=>rw[e] at h;exact⟨as,ms,hT.at' e,il.mp h⟩
  | _=>rw[e] at h;exact tf h
theorem Df(hT:TabOK g T)(h:vX n f (T.lookup x)=true):∃ as ms,OCl g x as ms/\(n,f)∈ms:=by
 cases e:T.lookup x with
 | none=>rw[e] at h;exact tf h
 | some it=>cases it with
  | ob as ms=>rw[e] at h;exact⟨as,ms,hT.at' e,il.mp h⟩
  | _=>rw[e] at h;exact tf h
theorem cc1(D:TabOK g T)(h:Ff (T.lookup x)=true):∃ c Ma q,FnAt g x c Ma q:=by
 cases e:T.lookup x with
 | none=>rw[e] at h;exact tf h
 | some it=>cases it with
  | mth k=>exact⟨_,_,_,D.at' e⟩
  | _=>rw[e] at h;exact tf h
end
inductive AAt(M:Hp)(x:Addr)(cls nm:Str)(K:V->Prop):Prop
 | mk (d:Addr) (fs:List (Str×V)) (u:V) (hx:M x=some (.ob cls d)) (hd:M d=some (.na fs)) (hu:(nm,u)∈fs) (k:K u):AAt M x cls nm K
inductive OAt(M:Hp)(x:Addr)(cls nm:Str)(P:Prop):Prop
 | mk (d:Addr) (fs:List (Str×V)) (hx:M x=some (.ob cls d)) (hd:M d=some (.na fs)) (hn:(fs.map (·.1)).contains nm=false) (k:P):OAt M x cls nm P
inductive ASet(M:Hp)(x:Addr)(cls nm:Str)(v:V)(K:Hp->Prop):Prop
 | mk (d:Addr) (fs:List (Str×V)) (hx:M x=some (.ob cls d)) (hd:M d=some (.na fs)) (hz:fs.length<=100) (k:K (upd M d (.na (A8 fs nm v)))):ASet M x cls nm v K
def Xq(cls nm:Str)(K:KT):KT:=λc s q H=>s1 (λv s=>m5 (λx=>AAt H x cls nm λu=>K c (u::s) q H) v) s
def Fi(T:Tab)(cls nm:Str)(k:Expr->Bool)(u:Expr×Str×Pos):Bool:=decide (u.2.1=nm)&&(Hk nm (T.lookup cls)&&((s0 u.1).isSome&&k u.1))
def IE.attr(cls nm:Str)(a:IE):IE where
 ck T sc vs x:=e7 (E1 x) (Fi T cls nm (a.ck T sc vs))
 w q K:=a.w q (Xq cls nm K)
 ok {T q c sc vs x K s J M} hT hc h:=by
  k_extra"S";intro E Ma;apply H6 hc;intro o n p hc1;k_extra"v"
  k_extra"aZ"
  obtain rfl:o=_:=e;k_extra"cU"
  refine Ma _ (bF4 oc hn ((a.ok hT h4 h).mono λv M h=>?_))
  obtain⟨x,rfl,d,A,u,U,C,D,k⟩:=s9 (show m5 _ v from h);clear h
  exact⟨x,d,A,u,rfl,U,C,D,k⟩
def QL(cls nm:Str)(K:KT):KT:=λc s q H=>s2 (λv o s=>m5 (λx=>ASet H x cls nm v (K c s q)) o) s
theorem Ui:swapsWith e (some (.Attribute o n p)) k env=pure false:=by cases e<;>rfl
def IS.bF(cls nm:Str)(o e:IE):IS where
 ck T sc vs x:=e7 (pH x) λt=>one t.1 λn=>e.ck T sc vs t.2.1&&e7 (E1 n) (Fi T cls nm (o.ck T sc vs))
 w q K:=e.w q (o.w q (QL cls nm K))
 ok {T q c sc vs x K s J M} hT hc h:=by
  k_extra"S";intro I Ma;k_extra"x"
  refine d5 (b9 hc2) λY C=>?_;clear hc2
  obtain rfl:t=[n]:=e2;apply H6 (x:=n) C;intro H n p A;obtain⟨h1,h2,h3,X⟩:=(b9 A).imp id λh=>(b9 h).imp id b9;clear A
  k_extra"aZ"
  obtain rfl:H=_:=e;k_extra"cU"
  refine Ma _ (Lh oc hn ((e.ok hT Y h).mono λv M h=>(o.ok hT X h).mono λa M h=>?_) λR=>Ui)
  obtain⟨x,rfl,d,D,U,E,F,k⟩:=s9 (show m5 _ a from h);clear h
  refine⟨x,d,D,rfl,U,E,?_,k⟩;rw[bQ];exact fB (bN (bN (jG _ _) F) (by decide))
def Qq(cls nm:Str)(K:KT):KT:=λc s q H=>s1 (λv s=>m5 (λx=>OAt H x cls nm (K c (v::s) q H)) v) s
def IE.aC(cls nm f:Str)(o:IE)(L:IEs):IE where
 ck T sc vs x:=vX nm f (T.lookup cls)&&(Ff (T.lookup f)&&e7 (A5 x) λt=>t.2.2.1.isEmpty&&e7 (E1 t.1) (xB nm (o.ck T sc vs) (L.ck T sc vs) t.2.1 t.2.2.2))
 w q K:=o.w q (Qq cls nm (L.w q (uy q f (L.n+1) K)))
 ok {T q c sc vs x K s J M} hT hc h:=by
  k_extra"S";intro I Ma;refine i4 ((b9 hc).imp id b9) λE F hc=>i5 (Df hT E) λA O H C=>?_
  apply T6 hc;intro fe A ks p hc1;refine d5 (b9 hc1) λh0 hc2=>?_;clear hc1
  obtain rfl:ks=[]:=dh.mp h0;apply H6 (x:=fe) hc2;intro P n Ja hc3;k_extra"j"
  obtain rfl:n=nm:=f4 h1;refine Ma _ ?_;refine Rb H C (cc1 hT F) ((o.ok hT h5 h).mono λv M h=>?_) h2 (λR=>Q0 h3) (λR=>Y3 (L.st h6 R p) (f4 h4))
  obtain⟨x,rfl,d,u,U,y,D,k⟩:=s9 (show m5 _ v from h)
  refine⟨x,d,u,rfl,U,y,λq=>?_,(L.ok (K:=uy q f (L.n+1) K) hT h6 k).mono λl M h=>?_⟩
  ·have:(u.map (·.1)).contains n=true:=il.mpr q
   exact ft (this.symm.trans D)
  ·exact D7 (l:=.ref x::l) (k:=λl s=>d8 c.g c.d q f l M (ps K c s J) (xC c J)) (congrArg (· + 1) h.1) h.2
def cv3(q:Bool)(cls f:Str)(n:Nat)(K:KT):KT:=λc s u H=>C8 n [] s λl s=>Req (1<=c.d) (New H λd=>New (upd H d (.na [])) λx=>d8 c.g (c.d-1) q f (.ref x::l) (upd (upd H d (.na [])) x (.ob cls d)) (λv O=>v=.none/\K c (.ref x::s) u O) noX)
def IE.new(cls f:Str)(L:IEs):IE where
 ck T sc vs x:=t9 x λn as=>decide (n=cls)&&(gl sc n&&(vX "__init__" f (T.lookup cls)&&L.ck T sc vs as))
 w q K:=L.w q (cv3 q cls f L.n K)
 ok {T q c sc vs x K s J M} hT hc h:=by
  k_extra"S";intro A Ma;k_extra"f"
  k_extra"v"
  k_extra"cd"
  refine i5 (Df hT h3) λas C y u=>?_;clear h3
  refine Ma _ (co2 (F:=⟨sc,vs,c.d,q⟩) y u h5 h6 ((L.ok hT h4 h).mono λl M h=>?_))
  obtain⟨p,k⟩:=D7 (k:=λl s=>Req (1<=c.d) (New M λd=>New (upd M d (.na [])) λx=>d8 c.g (c.d-1) q f (.ref x::l) (upd (upd M d (.na [])) x (.ob n d)) (λv O=>v=.none/\K c (.ref x::s) J O) noX)) h.1 h.2;try clear q;try clear h
  exact⟨p,k⟩
inductive Itms(M:Hp)(a:Addr)(Q:VP):Prop
 | mk (L:List (Str×V)) (h:M a=some (.ds L)) (hz:L.length<=10000) (k:∀ b,M b=none->Q (.ref b) (upd M b (.L (L.map F7)))):Itms M a Q
def bX4(K:KT):KT:=λc s q H=>s1 (λv s=>m5 (λa=>Itms H a (ps K c s q)) v) s
def xj(k:Expr->Bool)(r:Expr):Bool:=e7 (A5 r) λt=>t.2.2.1.isEmpty&&(t.2.1.isEmpty&&e7 (E1 t.1) λu=>decide (u.2.1=bM "items")&&((u.2.2.endLine==t.2.2.2.line)&&(T8 u.1&&k u.1)))
theorem Ib{r:Expr}{P:Expr->Prop}(h:xj k r=true)(K:∀ o c p,(c.endLine==p.line)=true->T8 o=true->k o=true->P (.Call (.Attribute o (bM "items") c) [] [] p)):P r:=by
 apply T6 h;intro f as ks p hc1;refine i4 ((b9 hc1).imp id b9) λh0 h1 hc2=>?_;clear hc1
 obtain rfl:ks=[]:=dh.mp h0;obtain rfl:as=[]:=dh.mp h1;apply H6 (x:=f) hc2;intro o n c hc3;k_extra"2";clear h
 obtain rfl:n=_:=f4 h1;exact K o c p h2 h3 h4
def IE.items(a:IE):IE where
 ck T sc vs x:=t9 x (biC T sc (E5 "list") (Q6 (xj (a.ck T sc vs))))
 w q K:=qK q (a.w q (bX4 K))
 ok {T q c sc vs x K s J M} hT hc h:=by
  k_extra"S";intro A Ma;k_extra"f"
  k_extra"D"
  k_extra"1"
  k_extra"af"
  apply Ib (r:=r) hc3;intro o D H E C u;refine Ma _ ?_;cases q with
  | false=>exact h.elim
  | true=>
   refine Mt (F:=⟨sc,vs,c.d,true⟩) (x3 hT h2) k1 k2 rfl ((a.ok hT u h).mono λv M h=>?_) E λR=>Q0 C
   obtain⟨b,rfl,L,hL,y,k⟩:=s9 (show m5 _ v from h);clear h
   exact⟨b,L,rfl,hL,y,k⟩
inductive Srtp(M:Hp)(ps:List (Str×Int))(Q:VP):Prop
 | mk (hn:(ps.map (·.1)).Nodup) (hz:ps.length<=4) (k:∀ (b:Addr) (ps':List (Str×Int)),M b=none->ps'.Perm ps->ps'.Pairwise ltP->Q (.ref b) (upd M b (.L (ps'.map tS)))):Srtp M ps Q
inductive SrtI(M:Hp)(a:Addr)(Q:VP):Prop
 | mk (ps:List (Str×Int)) (h:M a=some (.ds (ps.map λp=>(p.1,V.int p.2)))) (k:Srtp M ps Q):SrtI M a Q
inductive SrtL(M:Hp)(a:Addr)(Q:VP):Prop
 | mk (ps:List (Str×Int)) (h:M a=some (.L (ps.map tS))) (k:Srtp M ps Q):SrtL M a Q
def bT5(K:KT):KT:=λc s q H=>s1 (λv s=>m5 (λa=>SrtI H a (ps K c s q)) v) s
def IE.sitems(a:IE):IE where
 ck T sc vs x:=t9 x (biC T sc (K8 "sorted") (Q6 (xj (a.ck T sc vs))))
 w q K:=qK q (a.w q (bT5 K))
 ok {T q c sc vs x K s J M} hT hc h:=by
  k_extra"S";intro D Ma;k_extra"f"
  k_extra"D"
  k_extra"1"
  k_extra"af"
  apply Ib (r:=r) hc3;intro o H I E C u;refine Ma _ ?_;cases q with
  | false=>exact h.elim
  | true=>
   refine bu3 (F:=⟨sc,vs,c.d,true⟩) (M0 hT h2) k1 k2 rfl ((a.ok hT u h).mono λv M h=>?_) E λR=>Q0 C
   obtain⟨b,rfl,L,hL,A,y,k⟩:=s9 (show m5 _ v from h);clear h
   exact⟨b,L,rfl,hL,A,y,k⟩
def IE.sortp(a:IE):IE:=.bf "sorted" (λq N l H Q=>quiet (un (m5 λa=>SrtL H a Q) l) q) (fun{q g I c d l u H Q X} h=>L8 (C:=λq=>Cl g ⟨I,c,d,q⟩ (.builtin "sorted") l u H Q X) h λh=>by
 refine a7 (E7 h) λx qa k=>?_;subst qa;obtain⟨a,rfl,ps,e,hn,hz,k⟩:=s9 k;exact cl2 e hn hz k) (.cons a .nil)
def Cw(K:KT):KT:=λc s q H=>s3 (λo i x s=>m5 (λa=>D9 (λn=>Own H a λH k=>Req (k.length<=10000/\0<=n/\n<=k.length) (K c (.none::s) q (upd H a (.L (k.take n.toNat++x::k.drop n.toNat))))) i) o) s
def IE.insert(o i e:IE):IE where
 ck T sc vs x:=e7 (A5 x) λt=>t.2.2.1.isEmpty&&e7 (E1 t.1) (xB (bM "insert") (o.ck T sc vs) ((IEs.cons i (.cons e .nil)).ck T sc vs) t.2.1 t.2.2.2)
 w q K:=o.w q (Hc (i.w q (e.w q (Cw K))))
 ok {T q c sc vs x K s J M} hT hc h':=by
  k_extra"S";intro E Ma;k_extra"L"
  k_extra"ag";intro H n F hc3;k_extra"j";try clear h
  obtain rfl:n=_:=f4 h1;refine Ma _ ?_;refine Cv PySem.F.slot_list_insert PySem.F.type_list_insert ((o.ok hT h5 h').mono λv M h'=>?_) h2 (λR=>Q0 h3) (λR=>Y3 ((IEs.cons i (.cons e .nil)).st h6 R p) (f4 h4))
  obtain⟨a,rfl,l,e',h'⟩:=s9 h';exact⟨a,l,rfl,e',((IEs.cons i (.cons e .nil)).ok (K:=Cw K) hT h6 h').mono λL M ⟨C,A⟩=>by
   obtain⟨x,y,rfl⟩:∃ x y,L=[x,y]:=by cases L with | nil=>cases C | cons x l=>cases l with | nil=>cases C | cons y l=>cases l with | nil=>exact⟨x,y,rfl⟩ | cons _ _=>cases C
   refine a7 (N6 (show D9 _ x from A)) λn Ja A=>?_;subst Ja
   obtain⟨l,D,e,⟨p,k⟩,u⟩:=A.elim;exact PL e p.1 p.2.1 p.2.2 (by rw[u];exact k)⟩
set_option maxRecDepth 20000
theorem D8(n:Nat):((n:Int)-0).toNat=n:=by rw[oF];rfl
theorem bg7(n:Nat):((n:Int)-1-0).toNat=n-1:=by rw[oF];exact Int.toNat_sub n 1
theorem Hl{p:Nat}(h:p<=10000):0<=(p:Int)/\(0+1)*(p:Int).toNat<=10000/\(p:Int)<=10000:=⟨du _,by rw[jP,Nat.one_mul];exact h,cZ.mpr h⟩
theorem DN{n a:Nat}(h:a<n):n-(a+1)<n-a:=Nat.sub_lt_sub_left h (gF a)
theorem nzc{a:Int}{b:Nat}(h:a=((b+1:Nat):Int))(h':a=0):False:=absurd (jx.mp (h.symm.trans h')) (jB b)
theorem uY{a m:Int}(Y:0<=a)(h:a<=m)(c:m<=2 ^ 60):s5 a:=⟨cQ (by decide) Y,cQ h c⟩
theorem z60{a m:Nat}(h:a<=m)(c:m<=10000):s5 (a:Int):=uY (du _) (cZ.mpr (bN h c)) (by decide)
theorem Ms{a b m:Nat}(e:b=a)(h:a<=m)(c:m<=10000):s5 (b:Int):=e▸z60 h c
theorem zeq{a b m n:Nat}(e:b=a)(h:a<=m)(c:m<=n):b<=n:=bN (cu e) (bN h c)
theorem zlt{a m:Nat}{n:Int}(h:a<=m)(c:(m:Int)<n):(a:Int)<n:=dz (cZ.mpr h) c
abbrev IEs.c1(a:IE):IEs:=.cons a .nil
abbrev IEs.c2(a b:IE):IEs:=.cons a (.c1 b)
abbrev IEs.c3(a b d:IE):IEs:=.cons a (.c2 b d)
abbrev IEs.c4(a b d e:IE):IEs:=.cons a (.c3 b d e)
abbrev IEs.c5(a b d e f:IE):IEs:=.cons a (.c4 b d e f)
abbrev IEs.c6(a b d e f h:IE):IEs:=.cons a (.c5 b d e f h)
abbrev IEs.c7(a b d e f h i:IE):IEs:=.cons a (.c6 b d e f h i)
abbrev ISs.c1(a:IS):ISs:=.cons a .nil
abbrev ISs.c2(a b:IS):ISs:=.cons a (.c1 b)
abbrev ISs.c3(a b d:IS):ISs:=.cons a (.c2 b d)
abbrev ISs.c4(a b d e:IS):ISs:=.cons a (.c3 b d e)
abbrev ISs.c5(a b d e f:IS):ISs:=.cons a (.c4 b d e f)
abbrev ISs.c6(a b d e f h:IS):ISs:=.cons a (.c5 b d e f h)
abbrev ISs.c7(a b d e f h i:IS):ISs:=.cons a (.c6 b d e f h i)
abbrev ISs.c8(a b d e f h i j:IS):ISs:=.cons a (.c7 b d e f h i j)
abbrev ISs.c9(a b d e f h i j k:IS):ISs:=.cons a (.c8 b d e f h i j k)
theorem Vh{a m:Nat}{b n:Int}(h:b<a)(k:a<=m)(c:(m:Int)<n):b<n:=fu h (zlt k c)
theorem zmi{a m:Int}(Y:0<=a)(h:a<=m)(c:m<=10000):0<=a/\(0+1)*a.toNat<=10000/\a<=10000:=⟨Y,by rw[jP,Nat.one_mul];exact iJ.mpr (cQ h c),cQ h c⟩
abbrev IE.a:IE:=.v 0
abbrev IE.b:IE:=.v 1
abbrev IE.d:IE:=.v 2
abbrev IE.e:IE:=.v 3
abbrev IE.f:IE:=.v 4
abbrev IE.g:IE:=.v 5
abbrev IE.h:IE:=.v 6
abbrev IE.i:IE:=.v 7
abbrev IE.j:IE:=.v 8
abbrev IE.l:IE:=.v 9
abbrev IE.n(i:Int):IE:=.k (.int i)
abbrev IE.z(x:Str):IE:=.k (.str x)
abbrev IE.nx(a b:IE):IE:=.call "_law_next" (.c2 a b)
abbrev TG.b:TG:=.v 1
abbrev TG.d:TG:=.v 2
abbrev TG.e:TG:=.v 3
abbrev TG.f:TG:=.v 4
abbrev TG.g:TG:=.v 5
abbrev TG.h:TG:=.v 6
abbrev TG.i:TG:=.v 7
abbrev TG.j:TG:=.v 8
abbrev TG.l:TG:=.v 9
theorem zme{a b m:Nat}(e:b=a)(h:a<=m)(c:m<=10000):0<=(b:Int)/\(0+1)*(b:Int).toNat<=10000/\(b:Int)<=10000:=Hl (zeq e h c)
theorem zmn{a m:Int}{b:Nat}(h:(b:Int)<=a)(k:a<=m)(c:m<=10000):0<=(b:Int)/\(0+1)*(b:Int).toNat<=10000/\(b:Int)<=10000:=Hl (cZ.mp (cQ h (cQ k c)))
theorem zix{a b c m:Nat}(h:b<a)(e:c=a)(k:a<=m)(q:m<=10000):0<=(b:Int)/\(b:Int)<c/\c<=10000:=⟨du _,e▸cJ.mpr h,zeq e k q⟩
theorem zab{a b c d m n:Nat}(e:b+c=a)(f:d=b)(h:a<=m)(q:m<=n):d<=n:=f▸bN (eG b c) (e▸bN h q)
theorem zq5{a b c:Nat}(h:(a:Int)<5)(k:b<=c+2*((a:Int)-0).toNat):b<=c+8:=bN k (fG (by rw[D8];exact jb 2 (eH (cJ.mp h))) c)
def tab:Tab:=[(bM "is_from",.fn 14),
 (bM "is_number",.fn 15),
 (bM "is_row",.fn 16),
 (bM "is_table",.fn 17),
 (bM "at_number",.fn 18),
 (bM "is_word",.fn 24),
 (bM "within",.fn 25),
 (bM "is_fitting",.fn 26),
 (bM "is_one",.fn 27),
 (bM "is_rule",.fn 28),
 (bM "gathered",.fn 29),
 (bM "named",.fn 30),
 (bM "steps_to",.fn 35),
 (bM "ring_from",.fn 36),
 (bM "ring_of",.fn 37),
 (bM "form_of",.fn 38),
 (bM "order_of",.fn 39),
 (bM "papers_of",.fn 41),
 (bM "need_taken",.fn 42),
 (bM "of_two",.fn 43),
 (bM "leaf",.fn 44),
 (bM "worth",.fn 45),
 (bM "reckoned",.fn 46),
 (bM "history",.fn 47),
 (bM "File.__init__",.mth 1050),
 (bM "File.reckon",.mth 2050),
 (bM "File.renew",.mth 3050),
 (bM "File.need_year",.mth 4050),
 (bM "File.put",.mth 5050),
 (bM "File.take",.mth 6050),
 (bM "File.values",.mth 7050),
 (bM "File.value",.mth 8050),
 (bM "File.owed",.mth 9050),
 (bM "File.told",.mth 10050),
 (bM "_law_cell_at",.fn 52),
 (bM "_law_mixed",.fn 53),
 (bM "_law_next",.fn 54),
 (bM "_law_whole",.fn 55),
 (bM "_law_number",.fn 56),
 (bM "_law_table",.fn 57),
 (bM "_law_words",.fn 58),
 (bM "_law_plain",.fn 59),
 (bM "_law_rule",.fn 60),
 (bM "_law_sizes",.fn 61),
 (bM "_law_order",.fn 62),
 (bM "_law_form",.fn 63),
 (bM "_law_named",.fn 64),
 (bM "_law_at",.fn 65),
 (bM "_law_value",.fn 66),
 (bM "_law_alone",.fn 67),
 (bM "_law_row",.fn 68),
 (bM "_law_all",.fn 69),
 (bM "_law_changed",.fn 70),
 (bM "_law_told",.fn 71),
 (bM "_law_tried",.fn 72),
 (bM "_law_refused",.fn 73),
 (bM "_law_wrong",.fn 74),
 (bM "_law_deed",.fn 75),
 (bM "_law_noted",.fn 76),
 (bM "_law_kept",.fn 77),
 (bM "_law_looked",.fn 78),
 (bM "_law_step",.fn 79),
 (bM "_law_begun",.fn 80),
 (bM "law",.fn 81),
 (bM "DEEPEST",.int 8),
 (bM "File",.ob ["form","papers","marks","rows"] [("__init__","File.__init__"),("reckon","File.reckon"),("renew","File.renew"),("need_year","File.need_year"),("put","File.put"),("take","File.take"),("values","File.values"),("value","File.value"),("owed","File.owed"),("told","File.told")]),
 (bM "FormError",.cls 24 (vbm)),
 (bM "GREATEST",.int 1000000000),
 (bM "LETTERS",.str "abcdefghijklmnopqrstuvwxyz"),
 (bM "LONGEST",.int 8),
 (bM "MOST_CHOICES",.int 8),
 (bM "MOST_LINES",.int 40),
 (bM "MOST_ROWS",.int 20),
 (bM "MOST_TABLES",.int 5),
 (bM "MOST_YEARS",.int 8),
 (bM "NoChoice",.cls 121 (.ref 24::vbm)),
 (bM "NoForm",.cls 49 (.ref 24::vbm)),
 (bM "NoLine",.cls 109 (.ref 24::vbm)),
 (bM "NoPaper",.cls 85 (.ref 24::vbm)),
 (bM "NoRule",.cls 61 (.ref 24::vbm)),
 (bM "NoTable",.cls 37 (.ref 24::vbm)),
 (bM "NoYear",.cls 97 (.ref 24::vbm)),
 (bM "Ring",.cls 73 (.ref 24::vbm)),
 (bM "SIZES",.dict szs),
 (bM "TooMany",.cls 133 (.ref 24::vbm)),
 (bM "ValueError",.ty "ValueError"),
 (bM "all",.bi "all"),
 (bM "bool",.ty "bool"),
 (bM "dict",.ty "dict"),
 (bM "int",.ty "int"),
 (bM "isinstance",.bi "isinstance"),
 (bM "len",.bi "len"),
 (bM "list",.ty "list"),
 (bM "max",.bi "max"),
 (bM "min",.bi "min"),
 (bM "range",.ty "range"),
 (bM "set",.ty "set"),
 (bM "sorted",.bi "sorted"),
 (bM "str",.ty "str"),
 (bM "sum",.bi "sum"),
 (bM "tuple",.ty "tuple"),
 (bM "zip",.ty "zip")]
noncomputable def pq:Program:=pB
def Nk:ISs:=(.c1 (.ret (.and (.isi .a .int) (.and (.not (.isi .a .bool)) (.chain .LtE .LtE .b .a .d)))))
theorem bN2:f6 tab pq "is_from" 14 3 3 Nk=true:=by k_extra"#"
def bG3:ISs:=(.c1 (.ret (.call "is_from" (.c3 .a (.bin .Sub (.n 0) (.n 1000000000)) (.n 1000000000)))))
theorem Wq:f6 tab pq "is_number" 15 1 1 bG3=true:=by k_extra"#"
def WW:ISs:=(.c2 (.iff (.or (.not (.of (.isi .a .tuple))) (.cmp .NotEq (.len .a) (.n 3))) (.c1 (.ret (.k (.bool false)))) .nil) (.ret (.and (.call "is_number" (.c1 (.itk .a 0))) (.and (.call "is_number" (.c1 (.itk .a 1))) (.call "is_from" (.c3 (.itk .a 2) (.n 0) (.n 100)))))))
theorem JC:f6 tab pq "is_row" 16 1 1 WW=true:=by k_extra"#"
def QG:ISs:=(.c3 (.iff (.or (.not (.of (.isi .a .tuple))) (.not (.chain .LtE .LtE (.n 1) (.len .a) (.n 20)))) (.c1 (.ret (.k (.bool false)))) .nil) (.loop .b .a (.c1 (.iff (.not (.of (.call "is_row" (.c1 .b)))) (.c1 (.ret (.k (.bool false)))) .nil))) (.ret (.all (.comp [0] (.r1 (.bin .Sub (.len .a) (.n 1))) (.e (.cmp .Lt (.itk (.itm .b .a) 0) (.itk (.itm .b (.bin .Add .a (.n 1))) 0)))))))
theorem Mm:f6 tab pq "is_table" 17 2 1 QG=true:=by k_extra"#"
def Vt:ISs:=(.c3 (.asg 2 (.n 0)) (.loop (.t [3,4,5]) .a (.c1 (.iff (.cmp .LtE .e .b) (.c1 (.asg 2 (.bin .Add .f (.bin .FloorDiv (.bin .Mult (.bin .Sub .b .e) .g) (.n 100))))) .nil))) (.ret .d))
theorem Qd:f6 tab pq "at_number" 18 6 2 Vt=true:=by k_extra"#"
def ce8:ISs:=(.c2 (.iff (.or (.not (.of (.isi .a .str))) (.not (.chain .LtE .LtE (.n 1) (.len .a) (.n 8)))) (.c1 (.ret (.k (.bool false)))) .nil) (.ret (.all (.comp [] (.e .a) (.e (.cmp .In .a (.z "abcdefghijklmnopqrstuvwxyz")))))))
theorem bF5:f6 tab pq "is_word" 24 1 1 ce8=true:=by k_extra"#"
def QT:ISs:=(.c5 (.asg 1 (.itk .a 0)) (.iff (.cmp .In .b (.tup (.c4 (.z "number") (.z "paper") (.z "line") (.z "earlier")))) (.c1 (.ret (.L .nil))) .nil) (.iff (.cmp .Eq .b (.z "part")) (.c1 (.ret (.L (.c1 (.itk .a 1))))) .nil) (.iff (.or (.cmp .Eq .b (.z "table")) (.cmp .Eq .b (.z "choose"))) (.c1 (.ret (.list (.slc .a (.e (.n 2)) .no)))) .nil) (.ret (.list (.slc .a (.e (.n 1)) .no))))
theorem cd0:f6 tab pq "within" 25 2 1 QT=true:=by k_extra"#"
def YW:ISs:=(.c8 (.asg 4 (.itk .a 0)) (.iff (.cmp .Eq .f (.z "number")) (.c1 (.ret (.call "is_number" (.c1 (.itk .a 1))))) .nil) (.iff (.cmp .Eq .f (.z "paper")) (.c1 (.ret (.call "is_word" (.c1 (.itk .a 1))))) .nil) (.iff (.or (.cmp .Eq .f (.z "line")) (.cmp .Eq .f (.z "earlier"))) (.c1 (.ret (.call "is_from" (.c3 (.itk .a 1) (.n 0) (.bin .Sub .b (.n 1)))))) .nil) (.iff (.cmp .Eq .f (.z "part")) (.c1 (.ret (.call "is_from" (.c3 (.itk .a 2) (.n 0) (.n 100))))) .nil) (.iff (.cmp .Eq .f (.z "table")) (.c1 (.ret (.call "is_from" (.c3 (.itk .a 1) (.n 0) (.bin .Sub .d (.n 1)))))) .nil) (.iff (.cmp .Eq .f (.z "choose")) (.c1 (.ret (.call "is_from" (.c3 (.itk .a 1) (.n 0) (.bin .Sub .e (.n 1)))))) .nil) (.ret (.k (.bool true))))
theorem JT:f6 tab pq "is_fitting" 26 5 4 YW=true:=by k_extra"#"
def YX:ISs:=(.c4 (.iff (.or (.cmp .Eq .b (.n 0)) (.or (.not (.of (.isi .a .tuple))) (.or (.cmp .Eq .a (.tup .nil)) (.not (.of (.isi (.itk .a 0) .str)))))) (.c1 (.ret (.k (.bool false)))) .nil) (.iff (.or (.cmp .NotEq (.get szs (.itk .a 0)) (.len .a)) (.not (.of (.call "is_fitting" (.c4 .a .d .e .f))))) (.c1 (.ret (.k (.bool false)))) .nil) (.loop .g (.call "within" (.c1 .a)) (.c1 (.iff (.not (.of (.call "is_one" (.c5 .g (.bin .Sub .b (.n 1)) .d .e .f)))) (.c1 (.ret (.k (.bool false)))) .nil))) (.ret (.k (.bool true))))
theorem Wj:f6 tab pq "is_one" 27 6 5 YX=true:=by k_extra"#"
def IW:ISs:=(.c1 (.ret (.call "is_one" (.c5 .a (.n 8) .b .d .e))))
theorem cf5:f6 tab pq "is_rule" 28 4 4 IW=true:=by k_extra"#"
def Az:ISs:=(.c2 (.loop .e (.call "within" (.c1 .a)) (.cons (.asg 2 (.bin .Add .d (.call "gathered" (.c2 .e .b)))) (.drop .nil))) (.ret .d))
def TF:ISs:=(.cons (.asg 2 (.L .nil)) (.cons (.iff (.cmp .Eq (.itk .a 0) .b) (.c1 (.expr (.append .d (.itk .a 1)))) .nil) (.stop Az)))
theorem bT7:f6 tab pq "gathered" 29 4 2 TF=true:=by k_extra"#"
def bV4:ISs:=(.c1 (.ret (.sset (.call "gathered" (.c2 .a .b)))))
theorem KN:f6 tab pq "named" 30 2 2 bV4=true:=by k_extra"#"
def Mh:ISs:=(.c5 (.asg 2 (.dic1 .b (.n 0))) (.asg 3 (.L (.c1 .b))) (.asg 4 (.n 0)) (.whil (.cmp .Lt .f (.len .e)) (.c3 (.asg 5 (.itm .e .f)) (.aH .h (.r1 (.len .a)) (.c1 (.iff (.and (.cmp .In .g (.itm .a .h)) (.cmp .NotIn .h .d)) (.c2 (.aU .d .h (.bin .Add (.itm .d .g) (.n 1))) (.expr (.append .e .h))) .nil))) (.asg 4 (.bin .Add .f (.n 1))))) (.ret .d))
theorem bJ8:f6 tab pq "steps_to" 35 7 2 Mh=true:=by k_extra"#"
def Tq:ISs:=(.cons (.asg 2 (.call "steps_to" (.c2 .a .b))) (.cons (.bh 3 [2] (.e (.itm .a .b)) (.t (.cmp .In .a .b) (.itm .b .a))) (.cons (.iff (.cmp .Eq .e (.L .nil)) (.c1 (.ret (.L .nil))) .nil) .any)))
theorem Zo:f6 tab pq "ring_from" 36 6 2 Tq=true:=by k_extra"#"
def cr8:ISs:=(.c4 (.bh 1 [] (.e .a) (.e (.call "named" (.c2 .a (.z "line"))))) (.asg 2 (.L .nil)) (.aH .e (.r1 (.len .a)) (.c2 (.asg 4 (.call "ring_from" (.c2 .b .e))) (.iff (.and (.cmp .NotEq .f (.L .nil)) (.or (.cmp .Eq .d (.L .nil)) (.cmp .Lt (.len .f) (.len .d)))) (.c1 (.asg 2 .f)) .nil))) (.ret .d))
theorem bx9:f6 tab pq "ring_of" 37 5 1 cr8=true:=by k_extra"#"
def cz0:ISs:=(.c6 (.iff (.or (.cmp .Gt (.len .b) (.n 5)) (.not (.of (.all (.comp [] (.e .b) (.e (.call "is_table" (.c1 .a)))))))) (.c1 (.aL "NoTable" (.c1 (.z "no tables")))) .nil) (.asg 4 (.len .a)) (.iff (.or (.not (.chain .LtE .LtE (.n 1) .f (.n 40))) (.or (.not (.of (.call "is_from" (.c3 .d (.n 0) (.n 8))))) (.not (.of (.call "is_from" (.c3 .e (.n 0) (.bin .Sub .f (.n 1)))))))) (.c1 (.aL "NoForm" (.c1 (.z "no form")))) .nil) (.loop .g .a (.c1 (.iff (.not (.of (.call "is_rule" (.c4 .g .f (.len .b) .d)))) (.c1 (.aL "NoRule" (.c1 (.z "no rule")))) .nil))) (.iff (.cmp .NotEq (.call "ring_of" (.c1 .a)) (.L .nil)) (.c1 (.aL "Ring" (.c1 (.z "lines in a ring")))) .nil) (.ret (.tup (.c4 (.tuple .a) (.tuple .b) .d .e))))
theorem ba4:f6 tab pq "form_of" 38 6 4 cz0=true:=by k_extra"#"
def Un:ISs:=(.c4 (.bh 1 [] (.e (.itk .a 0)) (.e (.call "named" (.c2 .a (.z "line"))))) (.asg 2 (.L .nil)) (.whil (.cmp .Lt (.len .d) (.len .b)) (.c1 (.aH .e (.r1 (.len .b)) (.c1 (.iff (.and (.cmp .NotIn .e .d) (.of (.all (.comp [2] (.e (.itm .b .e)) (.e (.cmp .In .a .b)))))) (.c2 (.expr (.append .d .e)) .brk) .nil))))) (.ret .d))
theorem Rg:f6 tab pq "order_of" 39 4 1 Un=true:=by k_extra"#"
def Mr:ISs:=(.c4 (.iff (.not (.of (.isi .a .list))) .any .nil) (.asg 1 (.dic0 true)) (.loop .d .a (.c3 (.iff (.or (.not (.of (.isi .d .tuple))) (.or (.cmp .NotEq (.len .d) (.n 2)) (.or (.not (.of (.call "is_word" (.c1 (.itk .d 0))))) (.not (.of (.call "is_number" (.c1 (.itk .d 1)))))))) .any .nil) (.iff (.cmp .In (.itk .d 0) .b) .any .nil) (.aU .b (.itk .d 0) (.itk .d 1)))) (.ret .b))
theorem UW:f6 tab pq "papers_of" 41 3 1 Mr=true:=by k_extra"#"
def bY1:ISs:=(.c2 (.iff (.or (.not (.of (.isl .b))) (.cmp .NotEq (.len .b) (.itk .a 2))) .any .nil) (.loop .d .b (.c1 (.iff (.not (.of (.isi .d .bool))) .any .nil))))
theorem J1:f6 tab pq "need_taken" 42 3 2 bY1=true:=by k_extra"#"
def bE7:ISs:=(.c4 (.iff (.cmp .Eq .a (.z "add")) (.c1 (.ret (.bin .Add .b .d))) .nil) (.iff (.cmp .Eq .a (.z "take")) (.c1 (.ret (.bin .Sub .b .d))) .nil) (.iff (.cmp .Eq .a (.z "least")) (.c1 (.ret (.min .b .d))) .nil) (.ret (.max .b .d)))
theorem KY:f6 tab pq "of_two" 43 3 3 bE7=true:=by k_extra"#"
def Rq:ISs:=(.c6 (.unp [2,3,4,5,6] 1) (.iff (.cmp .Eq (.itk .a 0) (.z "number")) (.c1 (.ret (.itk .a 1))) .nil) (.iff (.cmp .Eq (.itk .a 0) (.z "paper")) (.c1 (.ret (.dg2 .d (.itk .a 1) (.n 0)))) .nil) (.iff (.cmp .Eq (.itk .a 0) (.z "line")) (.c1 (.ret (.itm .h (.itk .a 1)))) .nil) (.iff (.cmp .Eq (.len .e) (.n 0)) (.c1 (.ret (.n 0))) .nil) (.ret (.itm .e (.itk .a 1))))
theorem RC:f6 tab pq "leaf" 44 7 2 Rq=true:=by k_extra"#"
def bd5:ISs:=(.c7 (.asg 2 (.itk .a 0)) (.iff (.cmp .In .d (.tup (.c4 (.z "number") (.z "paper") (.z "line") (.z "earlier")))) (.c1 (.ret (.call "leaf" (.c2 .a .b)))) .nil) (.iff (.cmp .Eq .d (.z "part")) (.c1 (.ret (.bin .FloorDiv (.bin .Mult (.call "worth" (.c2 (.itk .a 1) .b)) (.itk .a 2)) (.n 100)))) .nil) (.iff (.cmp .Eq .d (.z "table")) (.c1 (.ret (.call "at_number" (.c2 (.itm (.itk .b 3) (.itk .a 1)) (.call "worth" (.c2 (.itk .a 2) .b)))))) .nil) (.iff (.cmp .Eq .d (.z "where")) (.c2 (.iff (.cmp .Gt (.call "worth" (.c2 (.itk .a 1) .b)) (.n 0)) (.c1 (.ret (.call "worth" (.c2 (.itk .a 2) .b)))) .nil) (.ret (.call "worth" (.c2 (.itk .a 3) .b)))) .nil) (.iff (.cmp .Eq .d (.z "choose")) (.c2 (.iff (.of (.itm (.itk .b 2) (.itk .a 1))) (.c1 (.ret (.call "worth" (.c2 (.itk .a 3) .b)))) .nil) (.ret (.call "worth" (.c2 (.itk .a 2) .b)))) .nil) (.ret (.call "of_two" (.c3 .d (.call "worth" (.c2 (.itk .a 1) .b)) (.call "worth" (.c2 (.itk .a 2) .b))))))
theorem Tz:f6 tab pq "worth" 45 3 2 bd5=true:=by k_extra"#"
def bH2:ISs:=(.c6 (.asg 4 (.call "papers_of" (.c1 .b))) (.expr (.call "need_taken" (.c2 .a .e))) (.asg 5 (.dic0 false)) (.asg 6 (.tup (.c5 .f .d .e (.itk .a 1) .g))) (.loop .i (.call "order_of" (.c1 .a)) (.c1 (.aU .g .i (.call "worth" (.c2 (.itm (.itk .a 0) .i) .h))))) (.ret (.comp [5] (.r1 (.len (.itk .a 0))) (.e (.itm .b .a)))))
theorem Xe:f6 tab pq "reckoned" 46 8 4 bH2=true:=by k_extra"#"
def Iz:ISs:=(.c4 (.asg 3 (.L .nil)) (.asg 4 (.L .nil)) (.loopz [5,6] .b .d (.c2 (.asg 4 (.call "reckoned" (.c4 .a .g .f .h))) (.expr (.append .e .f)))) (.ret (.comp [] (.e .e) (.e (.list .a)))))
theorem bQ1:f6 tab pq "history" 47 7 3 Iz=true:=by k_extra"#"
def JR:ISs:=(.c5 (.iff (.not (.of (.call "is_from" (.c3 .d (.n 1) (.n 8))))) (.c1 (.aL "NoForm" (.c1 (.z "no such years")))) .nil) (.bF "File" "form" .a .b) (.bF "File" "papers" .a (.comp [] (.r1 .d) (.e (.dic0 true)))) (.bF "File" "marks" .a (.comp [1] (.r1 .d) (.e (.bin .Mult (.L (.c1 (.k (.bool false)))) (.itk .b 2))))) (.bF "File" "rows" .a (.aC "File" "reckon" "File.reckon" .a .nil)))
theorem ZG:f6 tab pq "File.__init__" 1050 3 3 JR=true:=by k_extra"#"
def JV:ISs:=(.c2 (.bh 1 [] (.e (.attr "File" "papers" .a)) (.e (.items .a))) (.ret (.call "history" (.c3 (.attr "File" "form" .a) .b (.attr "File" "marks" .a)))))
theorem bR4:f6 tab pq "File.reckon" 2050 2 1 JV=true:=by k_extra"#"
def Rj:ISs:=(.c5 (.asg 1 (.aC "File" "reckon" "File.reckon" .a .nil)) (.asg 2 (.L .nil)) (.aH .e (.r1 (.len .b)) (.c1 (.aH .f (.r1 (.len (.itm .b .e))) (.c1 (.iff (.cmp .NotEq (.itm (.itm .b .e) .f) (.itm (.itm (.attr "File" "rows" .a) .e) .f)) (.c1 (.expr (.append .d (.tup (.c2 .e .f))))) .nil))))) (.bF "File" "rows" .a .b) (.ret .d))
theorem bK2:f6 tab pq "File.renew" 3050 5 1 Rj=true:=by k_extra"#"
def bg4:ISs:=(.c1 (.iff (.not (.of (.call "is_from" (.c3 .b (.n 0) (.bin .Sub (.len (.attr "File" "rows" .a)) (.n 1)))))) (.c1 (.aL "NoYear" (.c1 (.z "no such year")))) .nil))
theorem Rh:f6 tab pq "File.need_year" 4050 2 2 bg4=true:=by k_extra"#"
def Io:ISs:=(.c4 (.expr (.aC "File" "need_year" "File.need_year" .a (.c1 .b))) (.iff (.or (.not (.of (.call "is_word" (.c1 .d)))) (.not (.of (.call "is_number" (.c1 .e))))) (.c1 (.aL "NoPaper" (.c1 (.z "no paper")))) .nil) (.aU (.itm (.attr "File" "papers" .a) .b) .d .e) (.ret (.aC "File" "renew" "File.renew" .a .nil)))
theorem bL2:f6 tab pq "File.put" 5050 4 4 Io=true:=by k_extra"#"
def bT0:ISs:=(.c4 (.expr (.aC "File" "need_year" "File.need_year" .a (.c1 .b))) (.iff (.not (.of (.call "is_from" (.c3 .d (.n 0) (.bin .Sub (.itk (.attr "File" "form" .a) 2) (.n 1)))))) (.c1 (.aL "NoChoice" (.c1 (.z "no such choice")))) .nil) (.aU (.itm (.attr "File" "marks" .a) .b) .d .e) (.ret (.aC "File" "renew" "File.renew" .a .nil)))
theorem ZJ:f6 tab pq "File.take" 6050 4 4 bT0=true:=by k_extra"#"
def ca8:ISs:=(.c2 (.expr (.aC "File" "need_year" "File.need_year" .a (.c1 .b))) (.ret (.list (.itm (.attr "File" "rows" .a) .b))))
theorem NB:f6 tab pq "File.values" 7050 2 2 ca8=true:=by k_extra"#"
def Vy:ISs:=(.c3 (.expr (.aC "File" "need_year" "File.need_year" .a (.c1 .b))) (.iff (.not (.of (.call "is_from" (.c3 .d (.n 0) (.bin .Sub (.len (.itk (.attr "File" "form" .a) 0)) (.n 1)))))) (.c1 (.aL "NoLine" (.c1 (.z "no such line")))) .nil) (.ret (.itm (.itm (.attr "File" "rows" .a) .b) .d)))
theorem UL:f6 tab pq "File.value" 8050 3 3 Vy=true:=by k_extra"#"
def bb1:ISs:=(.c1 (.ret (.sum (.comp [0] (.e (.attr "File" "rows" .a)) (.e (.itm .a (.itk (.attr "File" "form" .b) 3)))))))
theorem Nv:f6 tab pq "File.owed" 9050 1 1 bb1=true:=by k_extra"#"
def Qv:ISs:=(.c2 (.expr (.aC "File" "need_year" "File.need_year" .a (.c1 .b))) (.ret (.tup (.c2 (.sitems (.itm (.attr "File" "papers" .a) .b)) (.list (.itm (.attr "File" "marks" .a) .b))))))
theorem J9:f6 tab pq "File.told" 10050 2 2 Qv=true:=by k_extra"#"
def cg2:ISs:=(.c2 (.iff (.cmp .Lt .b (.len .a)) (.c1 (.ret (.itm .a .b))) .nil) (.ret (.n 0)))
theorem cd3:f6 tab pq "_law_cell_at" 52 2 2 cg2=true:=by k_extra"#"
def bu2:ISs:=(.c1 (.ret (.bin .Mod (.bin .Mult (.bin .Add .a (.bin .Mult (.n 7919) .b)) (.n 48271)) (.n 2147483647))))
theorem bh8:f6 tab pq "_law_mixed" 53 2 2 bu2=true:=by k_extra"#"
def QR:ISs:=(.c2 (.aU .a (.n 0) (.bin .Mod (.bin .Add (.bin .Mult (.itk .a 0) (.n 48271)) (.n 11)) (.n 2147483647))) (.ret (.bin .Mod (.bin .FloorDiv (.itk .a 0) (.n 7)) .b)))
theorem OJ:f6 tab pq "_law_next" 54 2 2 QR=true:=by k_extra"#"
def bZ5:ISs:=(.c1 (.ret (.and (.isi .a .int) (.not (.isi .a .bool)))))
theorem RK:f6 tab pq "_law_whole" 55 1 1 bZ5=true:=by k_extra"#"
def ce5:ISs:=(.c4 (.asg 1 (.nx .a (.n 6))) (.iff (.cmp .Eq .b (.n 0)) (.c1 (.ret (.pick (.c4 (.neg (.pw 9 1000000000)) (.pw 9 1000000000) (.bin .Sub (.pw 9 1000000000) (.n 1)) (.bin .Sub (.n 1) (.pw 9 1000000000))) (.nx .a (.n 4))))) .nil) (.iff (.cmp .Eq .b (.n 1)) (.c1 (.ret (.bin .Sub (.nx .a (.n 2000001)) (.n 1000000)))) .nil) (.ret (.bin .Sub (.nx .a (.n 61)) (.n 20))))
theorem bP7:f6 tab pq "_law_number" 56 2 1 ce5=true:=by k_extra"#"
def zO:ISs:=(.c2 (.expr (.append .e (.tup (.c3 .d (.call "_law_number" (.c1 .a)) .g)))) (.asg 2 (.bin .Add (.bin .Add .d (.n 1)) (.pick (.c2 (.nx .a (.n 40)) (.nx .a (.n 20000))) (.nx .a (.n 2))))))
def xD:ISs:=(.c3 (.asg 3 (.L .nil)) (.aH .f (.r1 .b) (.cons (.asg 5 (.pick (.c3 (.n 0) (.n 100) (.nx .a (.n 101))) (.nx .a (.n 3)))) (.stop zO))) (.ret (.tuple .e)))
def GZ:ISs:=(.cons (.asg 2 (.pick (.c3 (.neg (.pw 9 1000000000)) (.bin .Sub (.nx .a (.n 2001)) (.n 1000)) (.bin .Sub (.pw 9 1000000000) (.bin .Mult (.n 20000) .b))) (.bin .FloorDiv (.nx .a (.n 12)) (.n 5)))) (.stop xD))
def RV:ISs:=(.cons (.asg 1 (.bin .Add (.n 1) (.nx .a (.n 4)))) (.cons (.iff (.cmp .Eq (.nx .a (.n 8)) (.n 1)) (.c1 (.asg 1 (.bin .Add (.n 5) (.nx .a (.n 16))))) .nil) (.stop GZ)))
theorem ca1:f6 tab pq "_law_table" 57 6 1 RV=true:=by k_extra"#"
def PJ:ISs:=(.c6 (.asg 1 (.z "abcdefghijklmnopqrstuvwxyz")) (.asg 2 (.z "")) (.aH .e (.r1 (.n 8)) (.c1 (.asg 2 (.bin .Add .d (.itm .b (.nx .a (.n 26))))))) (.asg 4 (.L (.c2 (.slc .d .no (.e (.bin .Add (.n 1) (.nx .a (.n 8))))) .d))) (.aH .e (.r1 (.n 3)) (.c2 (.asg 5 (.nx .a (.n 8))) (.expr (.append .f (.bin .Add (.bin .Add (.slc .d .no (.e .g)) (.itm .b (.nx .a (.n 26)))) (.slc .d (.e (.bin .Add .g (.n 1))) (.e (.bin .Add (.bin .Add (.n 1) .g) (.nx .a (.n 8)))))))))) (.ret (.bin .Add .f (.slc (.L (.c3 (.z "line") (.z "paper") (.z "add"))) .no (.e (.nx .a (.n 4)))))))
theorem QZ:f6 tab pq "_law_words" 58 6 1 PJ=true:=by k_extra"#"
def bY2:ISs:=(.c5 (.asg 4 (.nx .a (.n 5))) (.iff (.cmp .Eq .f (.n 0)) (.c1 (.ret (.tup (.c2 (.z "number") (.call "_law_number" (.c1 .a)))))) .nil) (.iff (.and (.cmp .Lt .f (.n 3)) (.cmp .Gt (.len .b) (.n 0))) (.c1 (.ret (.tup (.c2 (.z "line") (.itm .b (.nx .a (.len .b))))))) .nil) (.iff (.cmp .Eq .f (.n 3)) (.c1 (.ret (.tup (.c2 (.z "earlier") (.nx .a (.itk .d 0)))))) .nil) (.ret (.tup (.c2 (.z "paper") (.itm .e (.nx .a (.len .e)))))))
theorem cx8:f6 tab pq "_law_plain" 59 5 4 bY2=true:=by k_extra"#"
def ch8:ISs:=(.cons (.asg 5 (.nx .a (.n 12))) (.cons (.iff (.or (.cmp .Lt .b (.n 2)) (.cmp .Lt .g (.n 2))) (.c1 (.ret (.call "_law_plain" (.c4 .a .d .e .f)))) .nil) (.cons (.asg 6 (.call "_law_rule" (.c5 .a (.bin .Sub .b (.n 1)) .d .e .f))) (.c9 (.iff (.cmp .Eq .g (.n 6)) (.c1 (.ret (.tup (.c3 (.z "part") .h (.pick (.c3 (.n 0) (.n 100) (.nx .a (.n 101))) (.nx .a (.n 3))))))) .nil) (.iff (.and (.cmp .Eq .g (.n 7)) (.cmp .Gt (.itk .e 1) (.n 0))) (.c1 (.ret (.tup (.c3 (.z "table") (.nx .a (.itk .e 1)) .h)))) .nil) (.iff (.cmp .Eq .g (.n 7)) (.c1 (.ret .h)) .nil) (.asg 7 (.call "_law_rule" (.c5 .a (.min (.bin .Sub .b (.n 1)) (.n 2)) .d .e .f))) (.iff (.cmp .Eq (.nx .a (.n 2)) (.n 1)) (.c1 (.swap 6 7 .i .h)) .nil) (.iff (.cmp .Lt .g (.n 6)) (.c1 (.ret (.tup (.c3 (.pick (.c4 (.z "add") (.z "take") (.z "least") (.z "most")) (.bin .Sub .g (.n 2))) .h .i)))) .nil) (.iff (.cmp .Lt .g (.n 10)) (.c1 (.ret (.tup (.c4 (.z "where") .h .i (.call "_law_rule" (.c5 .a (.min (.bin .Sub .b (.n 1)) (.n 2)) .d .e .f)))))) .nil) (.iff (.cmp .Gt (.itk .e 2) (.n 0)) (.c1 (.ret (.tup (.c4 (.z "choose") (.nx .a (.itk .e 2)) .h .i)))) .nil) (.ret (.tup (.c3 (.z "take") .i .h)))))))
theorem cl8:f6 tab pq "_law_rule" 60 8 5 ch8=true:=by k_extra"#"
def HS:ISs:=(.c3 (.asg 4 (.bin .Mod (.bin .FloorDiv .a (.n 88128)) (.n 4))) (.iff (.cmp .Eq (.bin .Mod (.bin .FloorDiv .a (.n 352512)) (.n 8)) (.n 1)) (.c1 (.asg 4 (.bin .Add (.n 4) (.bin .Mod (.bin .FloorDiv .a (.n 2820096)) (.n 5))))) .nil) (.ret (.tup (.c3 .d .e .f))))
def Ci:ISs:=(.cons (.asg 3 (.bin .Mod (.bin .FloorDiv .a (.n 1224)) (.n 3))) (.cons (.iff (.cmp .Eq (.bin .Mod (.bin .FloorDiv .a (.n 3672)) (.n 8)) (.n 1)) (.c1 (.asg 3 (.bin .Add (.n 3) (.bin .Mod (.bin .FloorDiv .a (.n 29376)) (.n 3))))) .nil) (.stop HS)))
def bj3:ISs:=(.cons (.asg 2 (.bin .Add (.n 1) (.bin .Mod .a (.n 6)))) (.cons (.iff (.cmp .Eq (.bin .Mod (.bin .FloorDiv .a (.n 6)) (.n 6)) (.n 1)) (.c1 (.asg 2 (.bin .Add (.n 7) (.bin .Mod (.bin .FloorDiv .a (.n 36)) (.bin .Sub .b (.n 6)))))) .nil) (.stop Ci)))
theorem Rd:f6 tab pq "_law_sizes" 61 5 2 bj3=true:=by k_extra"#"
def JP:ISs:=(.c4 (.asg 2 (.lrng .b)) (.asg 3 (.L .nil)) (.whil (.cmp .Gt (.len .d) (.n 0)) (.c1 (.expr (.append .e (.pop .d (.nx .a (.len .d))))))) (.ret .e))
theorem VF:f6 tab pq "_law_order" 62 4 2 JP=true:=by k_extra"#"
def yq:ISs:=(.c2 (.bh 9 [2] (.r1 (.itk .e 1)) (.e (.call "_law_table" (.c1 .b)))) (.ret (.L (.c5 .g .l (.itk .e 2) (.nx .d (.itk .e 0)) .f))))
def Bq:ISs:=(.c2 (.aU .g .i (.call "_law_rule" (.c5 .d .j (.list .h) .e .f))) (.expr (.append .h .i)))
def Oi:ISs:=(.cons (.asg 2 (.L (.c1 (.call "_law_mixed" (.c2 (.call "_law_cell_at" (.c2 .a (.n 0))) (.n 1)))))) (.cons (.asg 3 (.call "_law_sizes" (.c2 (.call "_law_mixed" (.c2 (.call "_law_cell_at" (.c2 .a (.n 1))) (.n 2))) .b))) (.cons (.asg 4 (.call "_law_words" (.c1 .d))) (.cons (.asg 5 (.bin .Mult (.L (.c1 (.tup (.c2 (.z "number") (.n 0))))) (.itk .e 0))) (.cons (.asg 6 (.L .nil)) (.cons (.loop .i (.call "_law_order" (.c2 .d (.itk .e 0))) (.cons (.asg 8 (.bin .Add (.n 1) (.nx .d (.n 3)))) (.cons (.iff (.cmp .Eq (.nx .d (.n 12)) (.n 1)) (.c1 (.asg 8 (.bin .Add (.n 4) (.nx .d (.n 5))))) .nil) (.stop Bq)))) (.stop yq)))))))
theorem Zq:f6 tab pq "_law_form" 63 10 2 Oi=true:=by k_extra"#"
def Hm:ISs:=(.c2 (.loop .e (.slc .a (.e (.n 1)) .no) (.cons (.iff (.of (.isi .e .tuple)) (.c1 (.asg 2 (.bin .Add .d (.comp [2] (.e (.call "_law_named" (.c2 .e .b))) (.t (.cmp .NotIn .a .b) .a))))) .nil) (.drop .nil))) (.ret (.sorted .d)))
def bC0:ISs:=(.cons (.asg 2 (.L .nil)) (.cons (.iff (.cmp .Eq (.itk .a 0) .b) (.c1 (.expr (.append .d (.itk .a 1)))) .nil) (.stop Hm)))
theorem bp2:f6 tab pq "_law_named" 64 4 2 bC0=true:=by k_extra"#"
def KD:ISs:=(.c3 (.asg 2 (.n 0)) (.loop .e .a (.c1 (.iff (.cmp .GtE .b (.itk .e 0)) (.c1 (.asg 2 (.bin .Add (.itk .e 1) (.bin .FloorDiv (.bin .Mult (.bin .Sub .b (.itk .e 0)) (.itk .e 2)) (.n 100))))) .nil))) (.ret .d))
theorem PX:f6 tab pq "_law_at" 65 4 2 KD=true:=by k_extra"#"
def bY3:ISs:=(.cons (.asg 2 (.itk .a 0)) (.cons (.iff (.cmp .Eq .d (.z "number")) (.c1 (.ret (.itk .a 1))) .nil) (.c9 (.iff (.cmp .Eq .d (.z "paper")) (.c1 (.ret (.dg2 (.dict (.itk .b 1)) (.itk .a 1) (.n 0)))) .nil) (.iff (.inl .d (.c2 (.z "line") (.z "earlier"))) (.c2 (.asg 3 (.itm .b (.bin .Mult (.n 2) (.int (.cmp .Eq .d (.z "earlier")))))) (.ret (.sum (.slc .e (.e (.itk .a 1)) (.e (.bin .Add (.itk .a 1) (.n 1))))))) .nil) (.iff (.cmp .Eq .d (.z "table")) (.c1 (.ret (.call "_law_at" (.c2 (.itm (.itk .b 3) (.itk .a 1)) (.call "_law_value" (.c2 (.itk .a 2) .b)))))) .nil) (.iff (.cmp .Eq .d (.z "part")) (.c1 (.ret (.bin .FloorDiv (.bin .Mult (.call "_law_value" (.c2 (.itk .a 1) .b)) (.itk .a 2)) (.n 100)))) .nil) (.iff (.cmp .Eq .d (.z "choose")) (.c1 (.ret (.call "_law_value" (.c2 (.itm .a (.bin .Add (.n 2) (.int (.itm (.itk .b 4) (.itk .a 1))))) .b)))) .nil) (.asg 4 (.call "_law_value" (.c2 (.itk .a 1) .b))) (.asg 5 (.call "_law_value" (.c2 (.itk .a 2) .b))) (.iff (.cmp .Eq .d (.z "where")) (.c1 (.ret (.pick (.c2 (.call "_law_value" (.c2 (.itk .a 3) .b)) .g) (.int (.cmp .Gt .f (.n 0)))))) .nil) (.ret (.itm (.dik (.cons "add" (.bin .Add .f .g) (.cons "take" (.bin .Sub .f .g) (.cons "least" (.min .f .g) (.cons "most" (.max .f .g) .nil))))) .d)))))
theorem YC:f6 tab pq "_law_value" 66 6 2 bY3=true:=by k_extra"#"
def Ny:ISs:=(.c4 (.asg 1 (.bin .Add (.bin .Add (.int (.isx .a "NoTable" [] ["NoYear","NoPaper","NoChoice","NoLine"])) (.int (.isx .a "NoForm" [] ["NoYear","NoPaper","NoChoice","NoLine"]))) (.int (.isx .a "NoRule" [] ["NoYear","NoPaper","NoChoice","NoLine"])))) (.asg 1 (.bin .Add (.bin .Add (.bin .Add .b (.int (.isx .a "Ring" [] ["NoYear","NoPaper","NoChoice","NoLine"]))) (.int (.isx .a "NoPaper" ["NoPaper"] ["NoYear","NoChoice","NoLine"]))) (.int (.isx .a "NoYear" ["NoYear"] ["NoPaper","NoChoice","NoLine"])))) (.asg 1 (.bin .Add (.bin .Add (.bin .Add .b (.int (.isx .a "NoLine" ["NoLine"] ["NoYear","NoPaper","NoChoice"]))) (.int (.isx .a "NoChoice" ["NoChoice"] ["NoYear","NoPaper","NoLine"]))) (.int (.isx .a "TooMany" [] ["NoYear","NoPaper","NoChoice","NoLine"])))) (.ret (.and (.cmp .Eq .b (.n 1)) (.isx .a "ValueError" ["NoYear","NoPaper","NoChoice","NoLine"] []))))
theorem LQ:f6 tab pq "_law_alone" 67 2 1 Ny=true:=by k_extra"#"
def Uz:ISs:=(.c3 (.asg 1 (.L .nil)) (.whil (.cmp .Lt (.len .b) (.len .a)) (.c1 (.aH .d (.r1 (.len .a)) (.c2 (.bh 3 [1] (.e (.call "_law_named" (.c2 (.itm .a .d) (.z "line")))) (.t (.cmp .NotIn .a .b) .a)) (.iff (.and (.cmp .NotIn .d .b) (.cmp .Eq .e (.L .nil))) (.c1 (.expr (.append .b .d))) .nil))))) (.ret .b))
theorem by1:f6 tab pq "_law_row" 68 4 1 Uz=true:=by k_extra"#"
def Jw:ISs:=(.c4 (.asg 4 (.L .nil)) (.asg 5 (.L .nil)) (.aH .h (.r1 (.len .d)) (.c5 (.asg 7 (.bin .Mult (.L (.c1 (.n 0))) (.len .b))) (.asg 8 (.tup (.c5 .i (.itm .d .h) .g (.itk .a 1) (.itm .e .h)))) (.loop .l .b (.c1 (.aU .i .l (.call "_law_value" (.c2 (.itm (.itk .a 0) .l) .j))))) (.expr (.append .f .i)) (.asg 5 .i))) (.ret .f))
theorem Nj:f6 tab pq "_law_all" 69 10 4 Jw=true:=by k_extra"#"
def JW:ISs:=(.c3 (.asg 2 (.L .nil)) (.aH .e (.r1 (.len .a)) (.c1 (.aH .f (.r1 (.len (.itm .a .e))) (.c1 (.iff (.cmp .NotEq (.itm (.itm .a .e) .f) (.itm (.itm .b .e) .f)) (.c1 (.expr (.append .d (.tup (.c2 .e .f))))) .nil))))) (.ret .d))
theorem cw7:f6 tab pq "_law_changed" 70 5 2 JW=true:=by k_extra"#"
def bD8:ISs:=(.c5 (.iff (.cmp .Eq (.itk .b 0) (.z "put")) (.c1 (.ret (.aC "File" "put" "File.put" .a (.c3 (.itk .b 1) (.itk .b 2) (.itk .b 3))))) .nil) (.iff (.cmp .Eq (.itk .b 0) (.z "take")) (.c1 (.ret (.aC "File" "take" "File.take" .a (.c3 (.itk .b 1) (.itk .b 2) (.itk .b 3))))) .nil) (.iff (.cmp .Eq (.itk .b 0) (.z "value")) (.c1 (.ret (.aC "File" "value" "File.value" .a (.c2 (.itk .b 1) (.itk .b 2))))) .nil) (.iff (.cmp .Eq (.itk .b 0) (.z "values")) (.c1 (.ret (.aC "File" "values" "File.values" .a (.c1 (.itk .b 1))))) .nil) (.ret (.aC "File" "told" "File.told" .a (.c1 (.itk .b 1)))))
theorem Zu:f6 tab pq "_law_told" 71 2 2 bD8=true:=by k_extra"#"
def Ko:ISs:=(.c2 (.tri (.c1 (.expr (.call "_law_told" (.c2 .a .b)))) (.cons "NoYear" ["NoYear"] ["NoPaper","NoChoice","NoLine"] none (.c1 (.ret (.z "year"))) (.cons "NoPaper" ["NoPaper"] ["NoYear","NoChoice","NoLine"] none (.c1 (.ret (.z "paper"))) (.cons "NoChoice" ["NoChoice"] ["NoYear","NoPaper","NoLine"] none (.c1 (.ret (.z "choice"))) (.cons "NoLine" ["NoLine"] ["NoYear","NoPaper","NoChoice"] none (.c1 (.ret (.z "line"))) .nil))))) (.ret (.z "")))
theorem Jz:f6 tab pq "_law_tried" 72 2 2 Ko=true:=by k_extra"#"
def cd1:ISs:=(.c3 (.iff (.cmp .NotEq (.call "_law_tried" (.c2 .a .b)) .d) (.c1 (.ret (.k (.bool false)))) .nil) (.tri (.c1 (.expr (.call "_law_told" (.c2 .a .b)))) (.cons "FormError" ["NoYear","NoPaper","NoChoice","NoLine"] [] (some 3) (.c1 (.ret (.call "_law_alone" (.c1 .e)))) .nil)) (.ret (.k (.bool false))))
theorem aZ1:f6 tab pq "_law_refused" 73 4 3 cd1=true:=by k_extra"#"
abbrev Nm(g:G):Prop:=NmT pq tab g
theorem cB7:True:=by
 k_with"b"=>first | exact λN N N N N=>Af λN=>rfl | exact λN N N N N=>xG λN N=>rfl | exact λN N N N N=>zH λN N N=>rfl | exact λN N N N N=>xP λN N N N=>rfl | exact λN N N N N=>Em λN N N N N=>rfl | exact λN N N N N=>vs7 λN N N N N N N=>rfl
 k_with"d"=>first | exact p.dd (by decide) | exact cR (Nat.succ_pos _) p.d | exact cR (by lia) p.d | exact bN (by lia) p.d
 k_with"m"=>first | exact .head _ | exact .tail _ (.head _) | exact .tail _ (.tail _ (.head _)) | (simp;done)
 k_with"a"=>with_reducible assumption
 k_with"z"=>first | exact bN (by k_extra"a") (by k_extra"#") | exact z60 (by k_extra"a") (by k_extra"#") | exact zeq (by k_extra"a") (by k_extra"a") (by k_extra"#") | exact Ms (by k_extra"a") (by k_extra"a") (by k_extra"#") | exact zlt (by k_extra"a") (by k_extra"#") | exact dz (by k_extra"a") (by k_extra"#") | exact fu (by k_extra"a") (by k_extra"#") | exact uY (by k_extra"a") (by k_extra"a") (by k_extra"#") | exact .inl (by k_extra"#") | exact .inr (by k_extra"#") | exact .inr (uY (by k_extra"a") (by k_extra"a") (by k_extra"#")) | exact zmi (by k_extra"a") (by k_extra"a") (by k_extra"#") | exact zme (by k_extra"a") (by k_extra"a") (by k_extra"#") | exact zmn (by k_extra"a") (by k_extra"a") (by k_extra"#") | exact zix (by k_extra"a") (by k_extra"a") (by k_extra"a") (by k_extra"#") | exact zix (cJ.mp (by k_extra"a")) (by k_extra"a") (by k_extra"a") (by k_extra"#") | exact zix (by k_extra"a") rfl (by k_extra"a") (by k_extra"#") | exact Vh (by k_extra"a") (by k_extra"a") (by k_extra"#") | exact jh (by k_extra"a") (by k_extra"#") | exact bN (fB (by k_extra"a")) (by k_extra"#") | exact zab (by k_extra"a") (by k_extra"a") (by k_extra"a") (by k_extra"#") | exact zac (by k_extra"a") (by k_extra"a") (by k_extra"a") (by k_extra"#")
 k_with"n"=>first | (with_reducible assumption) | (decide +kernel) | k_extra"z" | lia | (unfold s5;lia)
 k_with"h"=>repeat (with_reducible first | assumption | apply d6 | refine g9 ?_ (by assumption) | refine p8 ?_ (by first | assumption | (apply Ne.symm;assumption)))
 k_with"l"=>first | (with_unfolding_all decide) | (simp;done) | (simp only[dD,mD,cC];lia) | (simp;lia) | (refine bN LC ?_;simp;lia)
 k_with"i"=>first | k_extra"n" | k_extra"l" | ((first | refine .inl ?_ | refine .inr ?_);unfold s5;lia) | (refine⟨?_,?_,?_⟩<;>first | lia | k_extra"l")
 k_with"y"=>(intro kwh;first | (exact absurd rfl kwh) | (exact(nzc (by k_extra"a") kwh).elim) | ((try simp only[dD,mD] at kwh);first | (exfalso;lia) | (revert kwh;intro _)))
 k_with"s"=>first | (refine(?_:Ite _ _ _);with_reducible first | apply bi1 | apply Ys | apply Mg | ((first | apply bI6 | apply ba9 | apply Kf | apply bN9)<;>k_extra"y") | ((first | apply cv0 | apply WN)<;>intro kwh<;>first | (exact absurd rfl kwh) | (exact absurd kwh (by first | assumption | decide +kernel)) | (revert kwh;intro _)) | (apply Vi<;>intro _) | refine bZ3 (by first | assumption | decide +kernel) ?_ | refine Qs (by first | assumption | decide +kernel) ?_ | (apply Lk<;>intro _)) | refine Req.mk (by k_extra"i") ?_ | (refine(?_:∀ _:Addr,(_:Option AObj)=none->_);intro _ _) | (refine(?_:d8 _ _ _ _ _ _ _ _);k_extra"c") | refine Look.mk _ (by k_extra"h") ?_ | refine InR.l (Look.mk _ (by k_extra"h") ?_) | refine InR.i _ rfl (LookI.mk _ (by k_extra"h") ?_) | refine InR.s _ rfl (LookS.mk _ (by k_extra"h") ?_) | refine ItR.l (LookR.mk _ (by k_extra"h") ?_) | refine ItR.l (LookR.scr _ (by assumption) ?_) | refine ItR.d (LookI.mk _ (by k_extra"h") ?_) | refine LookI.mk _ (by k_extra"h") ?_ | refine LookS.mk _ (by k_extra"h") ?_ | refine Hit.yes (by k_extra"#") ?_ | refine Hit.no (by k_extra"#") ?_ | refine PtR.l (Own.top ?_) | refine PtR.l (Own.mk _ (by k_extra"h") ?_) | refine PtR.d (OwnI.top ?_) | refine PtR.d (OwnI.mk _ (by k_extra"h") ?_) | refine OwnS.top ?_ | refine OwnS.mk _ (by k_extra"h") ?_ | refine EqT.nil rfl rfl (by k_extra"d") ?_ | refine LookR.mk _ (by k_extra"h") ?_ | refine LookR.scr _ (by assumption) ?_ | refine Own.top ?_ | refine Own.mk _ (by k_extra"h") ?_ | (refine cp1 ?_ ?_ ?_;lia;k_extra"l") | (with_reducible apply JD) | (with_reducible apply ck4;k_extra"y")
 k_with"w"=>repeat' (k_extra"s")
 trivial
section
variable{g:G}{Q:V->Hp->Prop}
theorem G1(N:Nm g)(hD:1<=D){v:V}{y c:Int}(ok:Ok M v)(h:Q (.bool (f8 v y c)) M):d8 g D true "is_from" [v,.int y,.int c] M Q X:=by
 refine bd N bN2 (by k_extra"b") hD λcx p=>?_
 cases v with
 | int n=>
  k_extra"w";all_goals exact p.h (by simpa[f8, *] using h)
 | ref a=>
  refine d4 (ok a rfl) λl hl=>?_
  k_extra"w";all_goals exact p.h h
 | _=>
  k_extra"ak"
open Internal renaming G1->y1
theorem cC0:True:=by
 k_with"c"=>refine y1 p.N (by k_extra"d") (by first | assumption | (intro _ e;cases e)) ?_
 trivial
theorem V4(N:Nm g)(hD:2<=D){v:V}(ok:Ok M v)(h:Q (.bool (f8 v (0-1000000000) 1000000000)) M):d8 g D true "is_number" [v] M Q X:=by
 refine bd N Wq (by k_extra"b") hD λcx p=>?_
 k_extra"ak"
open Internal renaming V4->y2
theorem cA9:True:=by
 k_with"c"=>refine y2 p.N (by k_extra"d") (by first | assumption | (intro _ e;cases e)) ?_
 trivial
theorem vy(N:Nm g)(hD:1<=D){v:V}(ok:Cld M v)(h:Q (.bool (x5 v)) M):d8 g D true "is_word" [v] M Q X:=by
 refine bd N bF5 (by k_extra"b") hD λcx p=>?_
 cases v with
 | str x=>
  have hz:=ok.strz;k_extra"w"
  ·refine CLoop.g p (λy A u=>M=u/\∃ done w,x.cps.toList=done++w/\y=w.map (λc=>.str ⟨#[c]⟩)/\A=(done.map λc=>Txt.contains G7 ⟨#[c]⟩).map .bool) ?_ ⟨rfl,[],_,rfl,rfl,rfl⟩ (λcx p v l A F Ja=>?_) ?_
   ·rw[wX];exact bN hz (by decide)
   ·rintro _ E;obtain⟨rfl,done,w,e,I,rfl⟩:=E
    refine⟨trivial,?_⟩;cases w with
    | nil=>cases I
    | cons c w=>
     cases I;k_extra"w";exact F ⟨rfl,done++[c],w,by simp[e],rfl,by simp;rfl⟩
   ·rintro A _ E;obtain⟨rfl,done,w,e,I,rfl⟩:=E
    refine⟨trivial,λa H=>?_⟩
    cases w with
    | cons=>cases I
    | nil=>
     k_extra"w";refine AllB.mk _ (d6 _ _ _) (p.r (Sub.upd H) ?_);have C:x.cps.toList=done:=by simpa using e
     have:x5 (.str x)=(done.map λc=>Txt.contains G7 ⟨#[c]⟩).all id:=by
      show m9 x=_;unfold m9;rw[C,lV];have Z:decide (1<=x.length)=true:=by simp;exact uo (by assumption)
      have S:decide (x.length<=8)=true:=by simp;exact cZ.mp (by assumption)
      simp only[Z,S,kY];rfl
     rw[<- this];exact h
  all_goals
   have e:x5 (.str x)=false:=by
    unfold x5 m9;have:¬ (1<=x.length)∨¬ (x.length<=8):=by lia
    rcases this with q | q<;>simp[q]
   rw[e] at h;exact p.h h
 | ref a=>
  k_extra"cg"
  k_extra"w";all_goals exact p.h h
 | _=>
  k_extra"ak"
end
section
variable{g:G}{Q:V->Hp->Prop}
set_option tactic.hygienic true in
theorem HD(N:Nm g)(hD:1<=D){w:Str}(hz:args.length<=100)(Z:w = "part"->1<=args.length)(h:∀ b,M b=none->Q (.ref b) (upd M b (.L (g8 w args)))):d8 g D true "within" [.tup (.str w::args)] M Q X:=by
 refine bd N cd0 (by k_extra"b") hD λcx p=>?_
 k_extra"w"
 ·rename_i hl b Y
  refine p.h ?_;have e:g8 w args=[]:=if_pos hl;rw[<- e];exact h b Y
 ·rename_i hl S
  subst S;cases args with
  | nil=>have:=Z rfl;simp at this
  | cons x l=>
   k_extra"bJ";refine p.h ?_;have e:=L7 (x::l);rw[<- show g8 "part" (x::l)=[x] from e];exact h b Y
 ·rename_i hl Ma S b Y
  refine p.h ?_;subst S;rw[zZ,<- K4];exact h b Y
 ·rename_i hl Ma S u b Y
  refine p.h ?_;subst u;rw[zZ,<- B9];exact h b Y
 ·rename_i hl Ma S u b Y
  refine p.h ?_;have e:g8 w args=args:=by
   unfold g8;rw[if_neg (by rw[show rP w=false from hl];decide),if_neg (by simpa using Ma),if_neg (by simp[S,u])]
  rw[yS,<- e];exact h b Y
open Internal renaming V4->y3,G1->y4,vy->y5
theorem cA7:True:=by
 k_with"c"=>first | refine y3 p.N (by k_extra"d") (Cld.ok (by assumption)) ?_ | refine y4 p.N (by k_extra"d") (Cld.ok (by assumption)) ?_ | refine y5 p.N (by k_extra"d") (by assumption) ?_
 trivial
theorem V7(N:Nm g)(hD:3<=D){w:Str}{z:Lim}(Z:w≠bM "number")(S:w≠bM "paper")(c:w≠bM "line")(q:w≠bM "earlier")(E:w≠bM "part")(U:w≠bM "table")(u:w≠bM "choose")(h:Q (.bool true) M):d8 g D true "is_fitting" [.tup (.str w::args),.int z.L,.int z.T,.int z.C] M Q X:=by
 k_extra"C"
 k_extra"w";exact p.h h
theorem Xy(N:Nm g)(hD:3<=D){w:Str}{z:Lim}(hc:Cld M (.tup (.str w::args)))(hs:siz w=some ((args.length:Int)+1))(h:Q (.bool (fit z w args)) M):d8 g D true "is_fitting" [.tup (.str w::args),.int z.L,.int z.T,.int z.C] M Q X:=by
 refine d5 hc.ak λhz hx=>?_
 have hm:=X4 hs;k_extra"a0"
 k_extra"k"
 ·k_extra"ab"
  k_extra"ah"
  k_extra"C"
  k_extra"w";exact p.h (by rw[rB] at h;exact h)
 ·k_extra"ab"
  k_extra"ah"
  k_extra"C"
  k_extra"w";exact p.h (by rw[rZ] at h;exact h)
 ·k_extra"ab"
  k_extra"ah"
  k_extra"C"
  k_extra"w";exact p.h (by rw[X9] at h;exact h)
 ·k_extra"ab"
  k_extra"ah"
  k_extra"C"
  k_extra"w";exact p.h (by rw[qu] at h;exact h)
 ·exact V7 N hD (by k_extra"#") (by k_extra"#") (by k_extra"#") (by k_extra"#") (by k_extra"#") (by k_extra"#") (by k_extra"#") (by rw[yo] at h;exact h)
 ·exact V7 N hD (by k_extra"#") (by k_extra"#") (by k_extra"#") (by k_extra"#") (by k_extra"#") (by k_extra"#") (by k_extra"#") (by rw[yc] at h;exact h)
 ·exact V7 N hD (by k_extra"#") (by k_extra"#") (by k_extra"#") (by k_extra"#") (by k_extra"#") (by k_extra"#") (by k_extra"#") (by rw[yD] at h;exact h)
 ·exact V7 N hD (by k_extra"#") (by k_extra"#") (by k_extra"#") (by k_extra"#") (by k_extra"#") (by k_extra"#") (by k_extra"#") (by rw[zE] at h;exact h)
 ·k_extra"cA"
  have kx:=hx y (by k_extra"m")
  k_extra"C"
  k_extra"w";exact p.h (by rw[qg] at h;exact h)
 ·k_extra"cA"
  k_extra"ah"
  k_extra"C"
  k_extra"w";exact p.h (by rw[qQ] at h;exact h)
 ·exact V7 N hD (by k_extra"#") (by k_extra"#") (by k_extra"#") (by k_extra"#") (by k_extra"#") (by k_extra"#") (by k_extra"#") (by rw[ux] at h;exact h)
 ·obtain⟨x,y,t,rfl⟩:=P4 (l:=args) (by exact qJ hn)
  k_extra"ah"
  k_extra"C"
  k_extra"w";exact p.h (by rw[X0] at h;exact h)
end
section
variable{g:G}
open Internal renaming Xy->y6,HD->y7
theorem cA6:True:=by
 k_with"c"=>first | refine y6 p.N (by k_extra"d") (by assumption) (by assumption) ?_ | (refine y7 p.N (by k_extra"d") (by assumption) (by assumption) ?_;intro _ _)
 trivial
set_option tactic.hygienic true in
theorem Nb{z:Lim}:∀ (n:Nat) {g:G} {D:Nat} {r:Int} {v:V} {M:Hp} {Q:V->Hp->Prop} {X:Str->Hp->Prop},Nm g->n+4<=D->r=(n:Int)->Cld M v->Q (.bool (ok z n v)) M->d8 g D true "is_one" [v,.int r,.int z.L,.int z.T,.int z.C] M Q X:=by
 intro n;induction n with
 | zero=>
  k_extra"bd"
  k_extra"w";exact p.h h
 | succ n Ja=>
  k_extra"bd"
  cases v with
  | tup l=>
   refine d5 hc.ak λhz hx=>?_
   cases l with
   | nil=>
    k_extra"w";exact p.h h
   | cons x C=>
    k_extra"ah"
    have I:C.length<=100:=by simp at hz;exact jl hz
    cases x with
    | str w=>
     k_extra"w";cases c:siz w with
     | none=>
      refine DGet.none c ?_;k_extra"w";refine p.h ?_;have e:ok z (n+1) (.tup (.str w::C))=false:=by rw[S2,c];rfl
      rw[e] at h;exact h
     | some k=>
      refine DGet.some k c ?_;k_extra"w"
      ·rename_i K
       refine p.h ?_;have e:ok z (n+1) (.tup (.str w::C))=false:=by
        have:¬ (k=(C.length:Int)+1):=λq=>K (by simp[q])
        rw[S2,c,show(some k==some ((C.length:Int)+1))=false from beq_eq_false_iff_ne.mpr λq=>this (d7 q)];rfl
       rw[e] at h;exact h
      ·rename_i K
       have A:siz w=some ((C.length:Int)+1):=by rw[c,K];simp
       have Ma:w = "part"->1<=C.length:=λe=>by
        subst e;rw[Hs] at A;injection A with A;lia
       k_extra"w"
       ·rename_i T b Y
        refine LoopR.tmp Y (Loop.g p (λy S u=>M=u/\(g8 w C).all (ok z n)=y.all (ok z n)/\(∀ x∈y,Cld M x)/\∃ o,S=[some (.tup (.str w::C)),some (.int r),some (.int z.L),some (.int z.T),some (.int z.C),o]) ⟨rfl,rfl,λx F=>hx x (dX _ (zK F)),none,rfl⟩ (λcx p Z v y H=>?_) ?_)
        ·k_extra"da"
         k_extra"W";have L:=h2 v (by k_extra"m")
         k_extra"w";refine Ja p.N (bN (cu (dH n 3).symm) p.d) (by k_extra"n") L ?_
         k_extra"w"
         ·rename_i E
          exact H ⟨rfl,by rw[h1,kZ,E,kY],λx hx=>h2 x (.tail _ hx),_,rfl⟩
         ·rename_i E
          refine p.h ?_;have e:ok z (n+1) (.tup (.str w::C))=false:=by rw[S2,h1,kZ,E,jj,iR]
          rw[e] at h;exact h
        ·k_extra"da"
         k_extra"a9";have e:ok z (n+1) (.tup (.str w::C))=true:=by rw[S2,A,T,h1,beq_self_eq_true];rfl
         rw[e] at h;exact h
       ·rename_i T
        refine p.h ?_;have e:ok z (n+1) (.tup (.str w::C))=false:=by rw[S2,T,iR,jj]
        rw[e] at h;exact h
    | ref a=>
     refine d4 (kx.ok a rfl) λl hl=>?_
     k_extra"w";all_goals exact p.h h
    | _=>
     k_extra"w";all_goals exact p.h h
  | ref a=>
   refine d4 (hc.ok a rfl) λl hl=>?_
   k_extra"w";all_goals exact p.h h
  | _=>
   k_extra"ak"
end
theorem Zb{w:Str}{n:Nat}(h:siz w=some ((n:Int)+1)):n<=100/\1<=n:=by
 have:2<=(n:Int)+1/\(n:Int)+1<=4:=(show ∀ p∈szs,2<=p.2/\p.2<=4 by k_extra"#") _ (X4 h)
 lia
section
variable{g:G}
theorem cw8(N:Nm g)(hD:13<=D){z:Lim}{v:V}{Q:V->Hp->Prop}(O:Cld M v)(h:Q (.bool (ok z 8 v)) M):d8 g D true "is_rule" [v,.int z.L,.int z.T,.int z.C] M Q X:=by
 refine bd N cf5 (by k_extra"b") hD λcx p=>?_
 k_extra"w";exact Nb 8 p.N (p.dd (by decide)) rfl O (p.h h)
open Internal renaming HD->y8
theorem cB5:True:=by
 k_with"c"=>(refine y8 p.N (by k_extra"d") (by assumption) (by assumption) ?_;intro _ _)
 trivial
set_option tactic.hygienic true in
theorem Qz{z:Lim}{u:Str}:∀ (n:Nat) {g:G} {D:Nat} {v:V} {M:Hp} {Q:V->Hp->Prop} {X:Str->Hp->Prop},Nm g->n+2<=D->ok z n v=true->(f9 n v u).length<=100->(∀ b,M b=none->Q (.ref b) (upd M b (.L (f9 n v u))))->d8 g D true "gathered" [v,.str u] M Q X:=by
 intro n;induction n with
 | zero=>intro g D v M Q X N _ K;exact ff K
 | succ n ih=>
  intro g D v M Q X N hD K hl h;refine j7 (O8 K) λw C Ja=>?_;subst Ja
  refine F2 (H7 K) λm hm hs _ R=>?_
  obtain rfl:n=m:=by exact nQ hm
  refine d5 (Zb hs) λhz Z=>?_
  have hp:w = "part"->1<=C.length:=λ_=>Z
  refine bd N bT7 (by k_extra"b") hD λcx p=>?_
  intro b hb;have I:Az.w true l7 cx [] [some (.tup (.str w::C)),some (.str u),some (.ref b),none] (upd M b (.L (if w==u then[arg C 0] else[]))):=by
   k_extra"w";rename_i t ht;refine LoopR.tmp ht (Loop.g p (λy S U=>∃ c L o,M c=none/\U=upd M c (.L L)/\L++(y.map λr=>f9 n r u).flatten=f9 (n+1) (.tup (.str w::C)) u/\(∀ x∈y,ok z n x=true)/\S=[some (.tup (.str w::C)),some (.str u),some (.ref c),o]) ⟨b,_,none,hb,rfl,by rw[H9],R,rfl⟩ (λcx p hB v y Y=>?_) ?_)
   ·k_extra"by"
    refine⟨trivial,?_⟩;have F:L.length+(f9 n v u).length<=100:=by
     have:=congrArg List.length hL;simp only[gM,jn,cC] at this
     lia
    k_extra"w";refine ih p.N (bN (cu (dH n 1).symm) p.d) (A v (by k_extra"m")) (by k_extra"n") λe Ma=>?_
    have hec:e≠c:=λq=>by rw[q,d6] at Ma;cases Ma
    k_extra"w";rename_i f hf;refine d5 (j3 hf) λhfe P=>d5 (j3 P) λhfc E=>?_
    exact Drop.mk (G2 ((Sub.upd O).trans (Sub.upd Ma))) (Y ⟨f,_,_,E,rfl,by rw[<- hL];simp,λx hx=>A x (.tail _ hx),rfl⟩)
   ·k_extra"by"
    k_extra"a9";have e:L=f9 (n+1) (.tup (.str w::C)) u:=by rw[<- hL];simp
    rw[e];exact h c O
  cases C with
  | nil=>simp at Z
  | cons x C=>
   k_extra"w"
   ·rename_i e
    refine Stop.mk ?_;rw[if_pos (by simp[e])] at I;exact I
   ·rename_i e
    refine Stop.mk ?_;rw[if_neg (by simp[e])] at I;exact I
theorem J7(N:Nm g){z:Lim}{u:Str}{n:Nat}(hD:n+3<=D){v:V}{Q:V->Hp->Prop}(K:ok z n v=true){E:List Int}(P:f9 n v u=E.map .int)(hl:E.length<64)
  (h:∀ b (L:List Int),M b=none->L.length<=E.length->(∀ y,y∈L↔y∈E)->Q (.ref b) (upd M b (.L (L.map .int)))):d8 g D true "named" [v,.str u] M Q X:=by
 refine bd N KN (by k_extra"b") hD λcx p=>?_
 have q:(f9 n v u).length<64:=by rw[P,bQ];exact hl
 k_extra"w";refine Qz n p.N p.d K (by k_extra"n") λb Y=>SSet.mk E (by rw[<- P];exact d6 _ _ _) hl λc L O F w=>?_
 k_extra"w";exact p.r (G2 (Sub.upd Y)) (h c L (j3 O).2 F w)
end
section
variable{g:G}{Q:V->Hp->Prop}
theorem GQ(N:Nm g)(hD:1<=D){a:Addr}{E:List Int}{k:Int}(P:Scr g a E)(hl:E.length<=100)(Y:0<=k)(Z:k<100)(h:∀ x,Q (.int x) M):d8 g D true "_law_cell_at" [.ref a,.int k] M Q X:=by
 refine bd N cd3 (by k_extra"b") hD λcx p=>?_
 have P:Scr cx.g a E:=p.e▸P;k_extra"w"
 ·refine Idx.mk Y (by assumption) (by k_extra"n") λx e=>?_
  rw[bW] at e;refine a7 (cL.mp e) λy j Ja=>?_;subst Ja
  exact p.h (h _)
 ·exact p.h (h _)
theorem DW(N:Nm g)(hD:1<=D){c k:Int}(K:s5 k)(h:∀ x,0<=x->x<2147483647->Q (.int x) M):d8 g D true "_law_mixed" [.int c,.int k] M Q X:=by
 refine bd N bh8 (by k_extra"b") hD λcx p=>?_
 k_extra"w";exact p.h (h _ (fV _ (by decide)) (gq _ (by decide)))
theorem O5(N:Nm g)(hD:1<=D){n k:Int}(Y:0<=n)(Z:n<2147483647)(K:0<k)(x:k<2 ^ 60)(h:∀ r F,0<=r->r<k->0<=F->F<2147483647->Q (.int r) (upd M st (.L [.int F]))) :
  d8 g D true "_law_next" [.ref st,.int k] (upd M st (.L [.int n])) Q X:=by
 refine bd N OJ (by k_extra"b") hD λcx p=>?_
 k_extra"w";exact p.h (h _ _ (fV _ (jR K)) (gq _ K) (fV _ (by decide)) (gq _ (by decide)))
open Internal renaming O5->y9
theorem cA8:True:=by
 k_with"c"=>(refine y9 p.N (by k_extra"d") (by k_extra"n") (by k_extra"n") (by k_extra"n") (by k_extra"n") ?_;intro _ _ _ _ _ _)
 trivial
theorem xM(N:Nm g)(hD:2<=D){n:Int}(Y:0<=n)(Z:n<2147483647)(h:∀ r F,-1000000000<=r->r<=1000000000->0<=F->F<2147483647->Q (.int r) (upd M st (.L [.int F]))) :
  d8 g D true "_law_number" [.ref st] (upd M st (.L [.int n])) Q X:=by
 refine bd N bP7 (by k_extra"b") hD λcx p=>?_
 k_extra"w";all_goals exact p.h (h _ _ (by k_extra"n") (by k_extra"n") (by k_extra"n") (by k_extra"n"))
theorem by5(N:Nm g)(hD:1<=D){b:Addr}{y:List V}{n k:Int}(T:M b=none)(q:b≠st)(Y:0<=n)(Z:n<2147483647)(K:0<k)(x:k<2 ^ 60)(h:∀ r F,0<=r->r<k->0<=F->F<2147483647->Q (.int r) (upd (upd M st (.L [.int F])) b (.L y))) :
  d8 g D true "_law_next" [.ref st,.int k] (upd (upd M st (.L [.int n])) b (.L y)) Q X:=
 ((O5 (Q:=λv u=>∃ r F,v=.int r/\0<=r/\r<k/\0<=F/\F<2147483647/\u=upd M st (.L [.int F])) N hD Y Z K x λr F a b c e=>⟨r,F,rfl,a,b,c,e,rfl⟩).under (NT T q)).mono (by
  rintro _ _ w;obtain⟨_,rfl,_,r,F,rfl,a,b,c,e,rfl⟩:=w;exact h r F a b c e)
theorem I2(N:Nm g)(hD:1<=D){n k:Int}(hst:M st=some (.L [.int n]))(Y:0<=n)(Z:n<2147483647)(K:0<k)(x:k<2 ^ 60)(h:∀ r F,0<=r->r<k->0<=F->F<2147483647->Q (.int r) (upd M st (.L [.int F]))) :
  d8 g D true "_law_next" [.ref st,.int k] M Q X:=by
 have:=O5 (M:=M) (Q:=Q) (X:=X) N hD (st:=st) Y Z K x h;k_extra"bc"
end
theorem Wi{a:Int}(Y:0<=a)(c:a<8)(e:L<=8-(a+1).toNat):a.toNat+1+L<=8:=by
 refine d4 (dI Y) λk Ja=>?_;subst Ja
 exact Nat.add_le_of_le_sub' (cJ.mp c) e
section
variable{g:G}{Q:V->Hp->Prop}
open Internal renaming by5->y10,O5->y11
theorem cB8:True:=by
 k_with"c"=>first | (refine y10 p.N (by k_extra"d") (by assumption) (by assumption) (by k_extra"n") (by k_extra"n") (by k_extra"n") (by k_extra"n") ?_;intro _ _ _ _ _ _) | (refine y11 p.N (by k_extra"d") (by k_extra"n") (by k_extra"n") (by k_extra"n") (by k_extra"n") ?_;intro _ _ _ _ _ _)
 trivial
set_option tactic.hygienic true in
theorem bd7(N:Nm g)(hD:2<=D)(Y:0<=n)(Z:n<2147483647)(h:∀ b (ws:List Str) H,b≠st->M b=none->5<=ws.length->ws.length<=8->(∀ x∈ws,m9 x=true)->0<=H->H<2147483647->Q (.ref b) (upd (upd M st (.L [.int H])) b (.L (ws.map .str)))) :
  d8 g D true "_law_words" [.ref st] (upd M st (.L [.int n])) Q X:=by
 have h26:(bM "abcdefghijklmnopqrstuvwxyz").length=26:=by k_extra"#"
 refine bd N QZ (by k_extra"b") hD λcx p=>?_
 k_extra"w";refine x2 p (λi S u=>∃ (base:Str) (n:Int) (k:Option V),Let base/\base.length=i/\0<=n/\n<2147483647/\u=upd M st (.L [.int n])/\S=[some (.ref st),some (.str (bM "abcdefghijklmnopqrstuvwxyz")),some (.str base),k,none,none]) ⟨bM "",n,none,Let.nil,rfl,Y,Z,rfl,rfl⟩ (λcx p hB i hi O=>?_) ?_
 ·rintro _ _ A;refine zT A λbase n k w y hn L Ja I=>?_;clear A;subst Ja;subst I
  k_extra"w";k_extra"ba"
  have hc1:(⟨#[c]⟩:Str).length=1:=rfl;k_extra"w";exact O ⟨_,_,_,w.app (Hn hc),by rw[uG,y,hc1],by assumption,by assumption,rfl,rfl⟩
 clear Y Z n;rintro _ _ A;refine zT A λbase n k w y Y Z Ja I=>?_;clear A;subst Ja;subst I
 have y:base.length=8:=y;k_extra"w";rename_i r H _ _ _ _ b hb;refine d5 (j3 hb) λhne U=>?_
 have Ma:∀ x∈[sls none (some (1+r)) base,base],m9 x=true:=by
  intro x hx;k_extra"aq"
  rcases hx with rfl | rfl
  ·have:=xO (x:=base) (j:=1+r) (by k_extra"n") (by k_extra"n")
   exact(w.sls _ _).word (by rw[this];exact Ej (by assumption)) (by rw[this];lia)
  ·exact w.word (by k_extra"n") (by k_extra"n")
 refine x2 p (λi S u=>∃ (ws:List Str) (n:Int) (k a:Option V),ws.length=2+i/\(∀ x∈ws,m9 x=true)/\0<=n/\n<2147483647/\u=upd (upd M st (.L [.int n])) b (.L (ws.map .str))/\S=[some (.ref st),some (.str (bM "abcdefghijklmnopqrstuvwxyz")),some (.str base),k,some (.ref b),a]) ⟨[sls none (some (1+r)) base,base],H,k,none,rfl,Ma,by assumption,by assumption,rfl,rfl⟩ (λcx p hB i hi O=>?_) ?_
 ·k_extra"be"
  k_extra"w";rename_i at' n1 P R _ _ r2 n2 _ _ _ _;have e1:=xO (x:=base) (j:=at') (by k_extra"n") (by k_extra"n")
  k_extra"ba"
  have hc1:(⟨#[c]⟩:Str).length=1:=rfl;have hl1:=uG (sls none (some at') base) ⟨#[c]⟩;k_extra"w";rename_i r3 n3 _ _ _ _;have q:(sls none (some at') base++⟨#[c]⟩).length=at'.toNat+1:=by rw[hl1,e1,hc1]
  have w3:=Wi P R (y▸(XH (x:=base) (i:=at'+1) (j:=1+at'+r3) (by k_extra"n") (by k_extra"n")))
  refine Req.mk (by rw[q];exact bN w3 (by decide)) ?_
  have C:=uG (sls none (some at') base++⟨#[c]⟩) (sls (some (at'+1)) (some (1+at'+r3)) base);rw[q] at C;have hz:(ws.map V.str).length<=10000:=by rw[bQ];lia
  k_extra"w";refine O ⟨ws++[_],_,_,_,?_,?_,by assumption,by assumption,by rw[cG];rfl,rfl⟩
  ·rw[cC,hl];simp;lia
  ·intro x hx
   rcases cz.mp hx with hx | hx
   ·exact Ma x hx
   ·k_extra"aq"
    subst hx;exact(((w.sls _ _).app (Hn hc)).app (w.sls _ _)).word (by rw[C];exact bN (cT 1 _) (eG _ _)) (by rw[C];exact w3)
 ·k_extra"be"
  have hl:ws.length=5:=hl;k_extra"w";rename_i t ht;refine d5 (j3 ht) λht1 ht2=>d5 (j3 ht2) λht3 ht4=>?_
  refine I2 p.N (p.dd (by decide)) (n:=n) (by k_extra"h") Y Z (by k_extra"n") (by k_extra"n") λr H hr hr' hn L=>Look.mk _ (by k_extra"h") ?_
  refine Req.mk (by decide) (λe he=>?_)
  have hs:slc none (some r) [V.str (bM "line"),V.str (bM "paper"),V.str (bM "add")]=([(bM "line"),bM "paper",bM "add"].take r.toNat).map V.str:=by
   rw[Bb hr,List.map_take];rfl
  rw[hs];have hlt:([(bM "line"),bM "paper",bM "add"].take r.toNat).length<=3:=by rw[gZ];exact gW _ _
  refine Look.mk (ws.map .str) (g9 (by k_extra"h") he) (Look.mk _ (d6 _ _ _) ?_)
  refine Req.mk (by simp only[bQ];lia) ?_
  refine λf hf=>?_
  rw[<- cG];k_extra"w";refine d5 (j3 hf) λhf1 T=>d5 (j3 T) λhf3 hf4=>?_
  refine d5 (j3 hf4) λhf5 hf6=>d5 (j3 hf6) λhf7 hf8=>?_
  refine d5 (j3 hf8) λhf9 K=>p.r (G2 (Sub.trans (Jq λc o hc E=>?_) (Sub.upd he))) (h f (ws++[(bM "line"),bM "paper",bM "add"].take r.toNat) H hf3 K (by simp;exact ZF (by assumption)) (by simp only[cC];lia) ?_ hn L)
  ·rw[e9 _ _ (j8 E ht4),e9 _ _ (j8 E U),e9 _ _ hc];exact E
  ·intro x hx
   rcases cz.mp hx with hx | hx
   ·exact Ma x hx
   ·have:=gO hx
    simp only[bR,dg,or_false] at this
    rcases this with rfl | rfl | rfl
    ·exact Mv
    ·exact QW
    ·exact ct0
end
section
variable{g:G}{Q:V->Hp->Prop}
open Internal renaming O5->y12,xM->y13
theorem cB4:True:=by
 k_with"c"=>first | (refine y12 p.N (by k_extra"d") (by k_extra"n") (by k_extra"n") (by k_extra"n") (by k_extra"n") ?_;intro _ _ _ _ _ _) | (refine y13 p.N (by k_extra"d") (by k_extra"n") (by k_extra"n") ?_;intro _ _ _ _ _ _)
 trivial
structure Src(M:Hp)(st sl wl:Addr)(z:Lim)(seen:List Int)(ws:List Str):Prop where
 hs:M sl=some (.L (seen.map .int))
 sne:sl≠st
 hw:M wl=some (.L (ws.map .str))
 wne:wl≠st
 sz:(seen.map V.int).length<=100
 wz:(ws.map V.str).length<=100
 w1:1<=(ws.map V.str).length
 L:1<=z.L
 L':z.L<=100
 T:0<=z.T
 T':z.T<=100
 C:0<=z.C
 C':z.C<=100
theorem Qu(N:Nm g)(hD:3<=D){seen:List Int}(S:Src M st u w z seen ws)(Y:0<=n)(Z:n<2147483647)
  (h:∀ r q,GR z (·∈seen) (·∈ws) 1 r->0<=q->q<2147483647->Q r (upd M st (.L [.int q]))) :
  d8 g D true "_law_plain" [.ref st,.ref u,.tup [.int z.L,.int z.T,.int z.C],.ref w] (upd M st (.L [.int n])) Q X:=by
 obtain⟨P,y,I,A,sz,K,Ja,L,c,T,H,C,E⟩:=S;refine bd N cx8 (by k_extra"b") hD λcx p=>?_
 k_extra"w"
 ·exact p.h (h _ _ (.num (by k_extra"n") (by k_extra"n")) (by assumption) (by assumption))
 ·k_extra"N"
  subst qa;k_extra"w";exact p.h (h _ _ (.line hi) (by assumption) (by assumption))
 ·k_extra"N"
  k_extra"bf"
 ·exact p.h (h _ _ (.au (by k_extra"n") (by k_extra"n")) (by assumption) (by assumption))
 ·k_extra"N"
  k_extra"bf"
theorem Fj(c:e=((k+1+1:Nat):Int)):min (e-1) 2=((min (k+1) 2-1+1:Nat):Int):=by
 subst c;cases k with
 | zero=>decide
 | succ k=>
  rw[jA (cT 2 k),Int.min_eq_right (by lia)];rfl
theorem Y5:min (k+1) 2-1<k+1:=iC (Nat.sub_le_sub_right (eQ _ _) 1)
theorem Aj(h:k+1<8):min (k+1) 2-1<8:=gY Y5 h
theorem ud:min (k+1) 2-1+1=min (k+1) 2:=kI (Nat.le_min.mpr ⟨cT 1 k,by decide⟩)
theorem Dp(h:k+1+4<=d):min (k+1) 2-1+5<=d:=bN (fQ (eH Y5) 5) (bN (cu (dH k 4).symm) h)
set_option tactic.hygienic true in
theorem Wn{seen:List Int}(S:Src M st H I z seen ws):∀ (m:Nat) {g:G} {n e:Int} {D:Nat} {Q:V->Hp->Prop} {X:Str->Hp->Prop},Nm g->m+5<=D->e=((m+1:Nat):Int)->m<8->0<=n->n<2147483647->
  (∀ r n',GR z (·∈seen) (·∈ws) (m+1) r->0<=n'->n'<2147483647->Q r (upd M st (.L [.int n'])))->
  d8 g D true "_law_rule" [.ref st,.int e,.ref H,.tup [.int z.L,.int z.T,.int z.C],.ref I] (upd M st (.L [.int n])) Q X:=by
 intro m;induction m using jT with
 | ind m ih=>
 intro g n e D Q X N hD he hm Y Z h;have T:=S.T;have A:=S.T';have R:=S.C;have u:=S.C';refine bd N cl8 (by k_extra"b") hD λcx p=>?_
 cases m with
 | zero=>
  k_extra"w";k_extra"a1"
  k_extra"w";exact p.h (h _ _ hr hn hn')
 | succ k=>
  k_extra"w"
  ·k_extra"a1"
   k_extra"w";exact p.h (h _ _ (hr.le (by k_extra"n")) hn hn')
  ·rename_i Ma n1 P C E c U K
   refine ih k (by k_extra"n") p.N (bN (cu (dH k 4).symm) p.d) (by k_extra"n") (by k_extra"n") E c λone n2 hone Ja x=>?_
   k_extra"w"
   ·k_extra"P"
   ·k_extra"P"
   ·k_extra"P"
   ·exact p.h (h _ _ (.table hone (by k_extra"n") (by k_extra"n")) (by assumption) (by assumption))
   ·exact p.h (h _ _ (hone.le (by k_extra"n")) (by assumption) (by assumption))
   ·rename_i O q
    refine ih (min (k+1) 2-1) Y5 p.N (Dp p.d) (Fj he) (Aj hm) Ja x λw n3 ho y L=>?_
    rw[ud] at ho;k_extra"w"
    ·k_extra"q"
    ·k_extra"q"
    ·k_extra"q"
    ·k_extra"q"
    ·k_extra"ae"
     rw[ud] at ht;k_extra"w";exact p.h (h _ _ (.aM ho hone ht) (by assumption) (by assumption))
    ·exact p.h (h _ _ (.aZ (by k_extra"n") (by k_extra"n") ho hone) (by assumption) (by assumption))
    ·k_extra"r"
    ·k_extra"r"
    ·k_extra"r"
    ·k_extra"r"
    ·k_extra"r"
    ·k_extra"ae"
     rw[ud] at ht;k_extra"w";exact p.h (h _ _ (.aN hone ho ht) (by assumption) (by assumption))
    ·exact p.h (h _ _ (.bu (by k_extra"n") (by k_extra"n") hone ho) (by assumption) (by assumption))
    ·k_extra"q"
end
structure NmP(Gs:List V)(gt:V->List V)(args F rest:List V):Prop where
 nd:F.Nodup
 sub:∀ y∈F,y∈Gs
 all:∀ y∈Gs,y∈F∨∃ x∈rest,(∃ l,x=.tup l)/\y∈gt x
 mem:∀ x∈rest,x∈args
section
variable{Gs F rest L2:List V}{gt:V->List V}{v:V}
theorem NmP.skip(p:NmP Gs gt args F (v::rest))(R:¬∃ l,v=.tup l):NmP Gs gt args F rest:=
 ⟨p.nd,p.sub,λy L=>(p.all y L).imp id λq=>by
  refine f5 q λx hx c q=>?_
  k_extra"aC"
  ·exact absurd c R
  ·exact⟨x,hx,c,q⟩,λx hx=>p.mem x (.tail _ hx)⟩
theorem NmP.put(p:NmP Gs gt args F (v::rest))(E:L2.Nodup)(A:∀ y,y∈L2↔y∈gt v)(w:∀ y∈gt v,y∈Gs)(Ma:∀ y∈Gs,p7 y):NmP Gs gt args (F++L2.filter λy=>!G0 F y) rest:=by
 have c:∀ y∈F,p7 y:=λy hy=>Ma y (p.sub y hy)
 refine⟨eN.mpr ⟨p.nd,E.sublist oh,λx hx y hy e=>?_⟩,λy hy=>?_,λy hy=>?_,λx hx=>p.mem x (.tail _ hx)⟩
 ·subst e
  have S:=(gj.mp hy).2;rw[(wC c (c x hx)).mpr hx] at S;cases S
 ·rcases cz.mp hy with q | q
  ·exact p.sub y q
  ·exact w y ((A y).mp (gj.mp q).1)
 ·rcases p.all y hy with q | ⟨x,hx,u,q⟩
  ·exact .inl (cz.mpr (.inl q))
  ·k_extra"aC"
   ·refine .inl (cz.mpr ?_)
    cases C:G0 F y with
    | true=>exact .inl ((wC c (Ma y hy)).mp C)
    | false=>exact .inr (gj.mpr ⟨(A y).mpr q,by rw[C];rfl⟩)
   ·exact .inr ⟨x,hx,u,q⟩
theorem NmP.fin(p:NmP Gs gt args F [])(y:V):y∈F↔y∈Gs:=⟨p.sub y,λL=>by
 rcases p.all y L with q | ⟨x,U,_⟩
 ·exact q
 ·cases U⟩
end
section
variable{g:G}
set_option tactic.hygienic true in
theorem Wt{u:Str}(hu:u = "line"):∀ (n:Nat) {g:G} {D:Nat} {v:V} {M:Hp} {Q:V->Hp->Prop} {X:Str->Hp->Prop},Nm g->n+2<=D->ok z n v=true->(f9 n v u).length<64->
  (∀ b L,M b=none->L.Nodup->(∀ y,y∈L↔y∈f9 n v u)->Q (.ref b) (upd M b (.L L)))->d8 g D true "_law_named" [v,.str u] M Q X:=by
 intro n;induction n with
 | zero=>intro g D v M Q X N hD K;exact(bU K).elim
 | succ n ih=>
  intro g D v M Q X N hD K hl h;have S:=Hu hu K;refine j7 (O8 K) λw args Ja=>?_;subst Ja
  refine F2 (H7 K) λm hm hs T O=>?_
  obtain rfl:n=m:=Nat.succ.inj hm;have h5:2<=(args.length:Int)+1/\(args.length:Int)+1<=4:=(by k_extra"#":∀ p∈szs,2<=p.2/\p.2<=4) _ (X4 hs)
  have hz:args.length<=100:=by lia
  have R:∃ x l,args=x::l:=by
   cases args with
   | nil=>exact absurd h5.1 (by decide)
   | cons x l=>exact⟨x,l,rfl⟩
  clear h5 K hm;have Ma:∀ x∈g8 w args,(f9 n x u).length<64:=λx U=>by
   have:=cf2 (l:=(g8 w args).map λx=>(f9 n x u).length) (x:=(f9 n x u).length) (cD.mpr ⟨_,U,rfl⟩)
   rw[H9,cC,nZ,fK] at hl;exact dq (bN this (cT _ _)) hl
  have Z:∀ y,y∈f9 (n+1) (.tup (.str w::args)) u↔(y∈(if w==u then[arg args 0] else[]))∨∃ x∈g8 w args,y∈f9 n x u:=λy=>by
   rw[H9,cz,jC];refine or_congr Iff.rfl ⟨λq=>?_,λq=>?_⟩
   ·refine a7 q λ_ hr q=>a7 (cD.mp hr) λx U Ja=>?_
    subst Ja;exact⟨x,U,q⟩
   ·exact a7 q λx U q=>⟨_,cD.mpr ⟨x,U,rfl⟩,q⟩
  generalize f9 (n+1) (.tup (.str w::args)) u=Gs at S hl Z h;refine bd N bp2 (by k_extra"b") hD λcx p=>?_
  intro b hb;have k:Hm.w true l7 cx [] [some (.tup (.str w::args)),some (.str u),some (.ref b),none] (upd M b (.L (if w==u then[arg args 0] else[]))):=?_
  ·refine j7 R λx l Ja=>?_;try clear R;subst Ja
   k_extra"w"
   ·rename_i e
    refine Stop.mk ?_;rw[if_pos (beq_iff_eq.mpr e)] at k;exact k
   ·rename_i e
    refine Stop.mk ?_;rw[if_neg (λq=>e (beq_iff_eq.mp q))] at k;exact k
  clear R;k_extra"w";rw[yS];refine Loop.g p (λrest J' Y=>∃ c F o,M c=none/\NmP Gs (λx=>f9 n x u) args F rest/\Y=upd M c (.L F)/\J'=[some (.tup (.str w::args)),some (.str u),some (.ref c),o]) ⟨b,_,none,hb,⟨?_,λy C=>(Z y).mpr (.inl C),λy C=>?_,λx U=>U⟩,rfl,rfl⟩ (λcx p hB v rest hJ=>?_) ?_
  ·split
   ·exact .cons (λ_ h=>by cases h) .nil
   ·exact .nil
  ·refine((Z y).mp C).imp id λq=>a7 q λx U q=>?_
   exact j7 (O8 (O x U)) λw' a' e=>⟨x,zK U,⟨_,e⟩,q⟩
  ·k_extra"bt"
   k_extra"W";have H:=hp.mem v (.head _);by_cases ht:∃ l,v=.tup l
   ·have hv:=Qt hs T H ht.choose_spec
    have hvk:=O v hv;have hvl:=Ma v hv;have hvg:∀ y∈f9 n v u,y∈Gs:=λy C=>(Z y).mpr (.inr ⟨v,hv,C⟩)
    refine d4 ht λl Ja=>?_;try clear ht;subst Ja
    clear Ma O Z hv H hs T;k_extra"w";refine ih p.N (bN (cu (dH n 1).symm) p.d) hvk hvl λe L2 he hS P=>?_
    have hL2:∀ y∈L2,p7 y:=λy C=>S y (hvg y ((P y).mp C))
    have hFa:∀ y∈F,p7 y:=λy C=>S y (hp.sub y C)
    have hL2l:L2.length<=63:=eH (dq (pQ hS λy C=>(P y).mp C) hvl)
    k_extra"cB";have hce:c≠e:=j8 (d6 _ _ _) he;refine Look.mk L2 (d6 _ _ _) (CLoop.g p (λrest A Y=>upd (upd M c (.L F)) e (.L L2)=Y/\∃ done,L2=done++rest/\A=done.filter (λy=>!G0 F y)) (by k_extra"n") ⟨rfl,[],rfl,rfl⟩ (λcx p v rest A hJ2 hN=>?_) ?_)
    ·rintro _ E;obtain⟨rfl,done,hd,rfl⟩:=E
     have hv2:p7 v:=hL2 v (hd▸cz.mpr (.inr (.head _)));refine⟨d6 _ _ _,?_⟩;k_extra"w";refine InL.mk (p7.aq hFa) hv2.flat (by rw[p7.aF hFa,hv2.dep];exact bN (by decide) (jb 8 (bN (cT 1 (n+1)) p.d))) ?_
     have hd2:L2=(done++[v])++rest:=by rw[hd,dB];rfl
     k_extra"w"
     ·rename_i I
      exact hJ2 ⟨rfl,done++[v],hd2,by rw[gw,fY,if_pos (by rw[show G0 F v=false from Bool.eq_false_iff.mpr (Ne.symm I)];rfl)];rfl⟩
     ·rename_i I
      exact hN ⟨rfl,done++[v],hd2,by rw[gw,fY,if_neg (by rw[show G0 F v=true from I.symm];decide)];exact(dC _).symm⟩
    ·rintro A _ E;obtain⟨rfl,done,hd,rfl⟩:=E
     rw[dC] at hd;subst hd;refine⟨d6 _ _ _,λa ha=>?_⟩
     have hfl:(L2.filter λy=>!G0 F y).length<=L2.length:=jG _ _
     k_extra"w";rename_i f T;exact Drop.mk (G2 (((Sub.upd hc).trans (Sub.upd he)).trans (Sub.upd ha))) (hJ ⟨f,_,_,(j3 (j3 (j3 T).2).2).2,(hp.put hS P hvg S),rfl,rfl⟩)
   ·have hp2:=hp.skip ht
    rcases Ht hs T H with q | ⟨i,rfl⟩ | ⟨i,rfl⟩
    ·exact j7 (O8 (O v q)) λw' a' e=>absurd ⟨_,e⟩ ht
    all_goals
     clear Z Ma O hs T H;k_extra"w";exact Drop.mk (Sub.refl _) (hJ ⟨c,F,_,hc,hp2,rfl,rfl⟩)
  ·k_extra"bt"
   k_extra"W";k_extra"cB";refine d4 (ug λy C=>S y (hp.sub y C)) λns Ja=>?_;subst Ja
   k_extra"w";refine Srted.mk ns (d6 _ _ _) (by rw[bQ] at hFl;exact iC hFl) λe L he I=>?_
   k_extra"w";have I:=I.map V.int;exact p.r (G2 (Sub.upd hc)) (h e _ (j3 he).2 (I.nodup_iff.mpr hp.nd) λy=>I.mem_iff.trans (hp.fin y))
end
def u7(v:V):Bool:=match v with
 | .tup l=>decide (l.length=3)&&(f8 (arg l 0) (0-1000000000) 1000000000&&(f8 (arg l 1) (0-1000000000) 1000000000&&f8 (arg l 2) 0 100))
 | _=>false
noncomputable def EY(v:V):Int:=match v with
 | .tup (.int a::_)=>a
 | _=>0
def E0(l:List V)(k:Nat):Bool:=decide (EY (l.getD k .none)<EY (l.getD (k+1) .none))
def u9(v:V):Bool:=match v with
 | .tup l=>(decide (1<=l.length)&&decide (l.length<=20))&&(l.all u7&&(cY (l.length-1)).all (E0 l))
 | _=>false
theorem bc7(h:l.length≠3):u7 (.tup l)=false:=by
 show(decide (l.length=3)&&_)=false;rw[decide_eq_false h];rfl
theorem vH:u7 (.tup [a,b,c])=(f8 a (0-1000000000) 1000000000&&(f8 b (0-1000000000) 1000000000&&f8 c 0 100)):=rfl
section
variable{g:G}{Q:V->Hp->Prop}
open Internal renaming V4->y14,G1->y15
theorem cB2:True:=by
 k_with"c"=>first | refine y14 p.N (by k_extra"d") (Cld.ok (by assumption)) ?_ | refine y15 p.N (by k_extra"d") (Cld.ok (by assumption)) ?_
 trivial
set_option tactic.hygienic true in
theorem bw2(N:Nm g)(hD:3<=D)(ok:Cld M v)(h:Q (.bool (u7 v)) M):d8 g D true "is_row" [v] M Q X:=by
 refine bd N JC (by k_extra"b") hD λcx p=>?_
 cases v with
 | tup l=>
  refine d5 ok.ak λy U=>?_
  have y:l.length<=10000:=bN y (by decide)
  k_extra"w"
  ·rename_i hl
   refine p.h ?_;rw[bc7 (λq=>hl (by rw[q];rfl))] at h;exact h
  ·rename_i hl
   refine Q7 (P4 (l:=l) (jx.mp hl)) λa b c Ja=>?_;subst Ja
   have u:=U a (by k_extra"m")
   have w:=U b (by k_extra"m")
   have x:=U c (by k_extra"m")
   k_extra"w"
   ·rename_i Ma Y
    rw[vH,Ma,Y] at h;exact p.h h
   ·rename_i Ma Y
    exact p.b Y (by rw[vH,Ma,Y] at h;exact h)
   ·rename_i Ma
    exact p.b Ma (by rw[vH,Ma] at h;exact h)
 | ref a=>
  k_extra"cg"
  k_extra"w";all_goals exact p.h h
 | _=>
  k_extra"ak"
end
section
variable{g:G}{Q:V->Hp->Prop}
theorem V1(h:u7 v=true):∃ a b c,v=.tup [.int a,.int b,.int c]/\0<=c/\c<=100:=by
 cases v with
 | tup l=>
  refine d5 ((eV _ _).mp (show(decide (l.length=3)&&_)=true from h)) λY Z=>Q7 (P4 (f4 Y)) λx y t Ja=>?_
  subst Ja;refine d5 ((eV _ _).mp Z) λZ u=>d5 ((eV _ _).mp u) λS C=>?_
  refine a7 (t8 Z) λa w N=>a7 (t8 S) λb q N=>?_
  exact f5 (t8 C) λc A F E=>⟨a,b,c,by rw[show x=_ from w,show y=_ from q,show t=_ from A],F,E⟩
 | _=>exact ff h
theorem Gp(h:u7 v=true):∃ a b c,v=.tup [.int a,b,c]:=by
 exact v9 (V1 h) λa b c e N=>⟨a,_,_,e⟩
theorem tD{l:List V}(h:l[k]?=some x):l.getD k .none=x:=by rw[cI,h];rfl
set_option tactic.hygienic true in
theorem Lg(N:Nm g)(hD:4<=D){v:V}(ok:Cld M v)(h:Q (.bool (u9 v)) M):d8 g D true "is_table" [v] M Q X:=by
 refine bd N Mm (by k_extra"b") hD λcx p=>?_
 cases v with
 | tup l=>
  refine d5 ok.ak λP U=>?_
  have hz:l.length<=10000:=bN P (by decide)
  k_extra"w"
  ·rename_i h1 h2
   refine Loop.g p (λy S u=>M=u/\l.all u7=y.all u7/\(∀ x∈y,Cld M x)/\∃ o,S=[some (.tup l),o]) ⟨rfl,rfl,U,none,rfl⟩ (λcx p hB v y K=>?_) ?_
   ·rintro _ _ H;obtain⟨rfl,C,O,o,rfl⟩:=H
    k_extra"W";k_extra"w";refine bw2 p.N (p.dd (by decide)) (O v (by k_extra"m")) ?_
    k_extra"w"
    ·rename_i w
     exact K ⟨rfl,by rw[C,kZ,w,kY],λx U=>O x (.tail _ U),_,rfl⟩
    ·rename_i w
     have e:u9 (.tup l)=false:=by
      show(_&&(l.all u7&&_))=false;rw[C,kZ,w,jj,jj,iR]
     rw[e] at h;exact p.h h
   ·rintro _ _ H;obtain⟨rfl,C,O,o,rfl⟩:=H
    k_extra"W";have C:=C;have hr:=cX.mp C;have E:1<=l.length:=by exact uo h1
    k_extra"w";refine Y1 p (λi A u=>M=u/\A=(cY i).map λk=>V.bool (E0 l k)) (by lia) ⟨rfl,rfl⟩ (λcx p i A L K hN=>?_) ?_
    ·rintro _ H;refine d5 H λqa qb=>?_;clear H;subst qa;rw[qb] at K hN
     k_extra"K";have I:i<l.length:=by exact bY0 L
     have Ja:i+1<l.length:=by exact bC7 L
     refine Q7 (Gp (hr _ (fL I))) λa b c ea=>Q7 (Gp (hr _ (fL Ja))) λR Y T Ma=>?_
     have Z:l[i]?=some (.tup [.int a,b,c]):=by rw[bO I,ea]
     have g2:l[i+1]?=some (.tup [.int R,Y,T]):=by rw[bO Ja,Ma]
     k_extra"w";refine Idx.mk (by exact D0) (by exact be7 L) (by lia) λx F=>?_
     obtain rfl:x=.tup [.int a,b,c]:=d7 (F.symm.trans Z);k_extra"w";refine Idx.mk (by exact Xk) (by exact Jr L) (by lia) λx F=>?_
     obtain rfl:x=.tup [.int R,Y,T]:=d7 (F.symm.trans g2);k_extra"w";refine K ⟨rfl,?_⟩;rw[gJ,cG];show _=_++[V.bool (E0 l i)];unfold E0;rw[tD Z,tD g2];rfl
    ·rintro A _ ⟨rfl,rfl⟩ c hc
     k_extra"w";have e:u9 (.tup l)=((cY (l.length-1)).map (E0 l)).all id:=by
      show((decide (1<=l.length)&&decide (l.length<=20))&&(l.all u7&&(cY (l.length-1)).all (E0 l)))=_;rw[C,decide_eq_true E,decide_eq_true (show l.length<=20 by exact Bo h2),lV];rfl
     have e2:((l.length:Int)-1-0).toNat=l.length-1:=bg7 _;refine AllB.mk ((cY (l.length-1)).map (E0 l)) (by rw[e2,fK];exact d6 _ _ _) ?_
     rw[e] at h;exact p.r (Sub.upd hc) h
  all_goals
   have e:u9 (.tup l)=false:=by
    show((decide (1<=l.length)&&decide (l.length<=20))&&_)=false;have:¬ (1<=l.length)∨¬ (l.length<=20):=by lia
    rcases this with q | q<;>simp[q]
   rw[e] at h;exact p.h h
 | ref a=>
  k_extra"cg"
  k_extra"w";all_goals exact p.h h
 | _=>
  k_extra"ak"
end
theorem zb(k:Int)(p:Int×V)(L:List (Int×V)):i9 (p::L) k=if p.1=k then some p.2 else i9 L k:=by
 unfold i9;rw[iw];by_cases e:p.1=k
 ·rw[if_pos e,show decide (p.1=k)=true from decide_eq_true e];rfl
 ·rw[if_neg e,show decide (p.1=k)=false from decide_eq_false e]
theorem vK{L:List (Int×V)}(h:k∈L.map (·.1)):∃ v,i9 L k=some v/\(k,v)∈L:=by
 induction L with
 | nil=>cases h
 | cons p L c=>
  rw[zb];by_cases e:p.1=k
  ·rw[if_pos e];exact⟨p.2,rfl,by rw[<- e];exact .head _⟩
  ·rw[if_neg e]
   rcases bR.mp h with q | q
   ·exact absurd q.symm e
   ·refine a7 (c q) λv Z S=>?_;exact⟨v,Z,.tail _ S⟩
theorem YF{L:List (Int×V)}(h:k∉L.map (·.1)):i9 L k=none:=by
 induction L with
 | nil=>rfl
 | cons p L c=>
  rw[zb,if_neg (λe=>h (by rw[<- e];exact .head _))]
  exact c λq=>h (.tail _ q)
theorem Cr{L:List (Int×V)}(h:k∉L.map (·.1)):x7 L k v=L++[(k,v)]:=by
 unfold x7;rw[if_neg];intro q;exact a7 (ie.mp q) λp Ma e=>h (by rw[<- f4 e];exact cD.mpr ⟨p,Ma,rfl⟩)
structure NmAt(M:Hp)(na:Addr)(nm:List (List Int)):Prop where
 ex:∃ rs:List Addr,M na=some (.L (rs.map .ref))/\rs.length=nm.length/\∀ (i:Nat) r,rs[i]?=some r->M r=some (.L ((nm.getD i []).map .int))
 bG:nm.length<=100
 l100:∀ l∈nm,l.length<=100
theorem NmAt.sub(h:NmAt M C nm)(k:Sub M M'):NmAt M' C nm:=by
 obtain⟨⟨u,Z,S,c⟩,q,E⟩:=h;exact⟨⟨u,k _ _ Z,S,λi r e=>k _ _ (c i r e)⟩,q,E⟩
theorem NmAt.len(h:NmAt M C nm):(nm.getD i []).length<=100:=by
 rw[cI];cases e:nm[i]? with
 | none=>exact cP _
 | some l=>exact h.l100 l (cA e)
structure Acy(nm:List (List Int))(rk:Int->Nat):Prop where
 rng:∀ (i:Nat),∀ j∈nm.getD i [],0<=j/\j<nm.length
 dn:∀ (i:Nat),∀ j∈nm.getD i [],rk j<rk i
structure SJ(goal:Int)(rk:Int->Nat)(n:Nat)(S:List Int)(L:List (Int×V)):Prop where
 keys:L.map (·.1)=S
 nd:S.Nodup
 rng:∀ x∈S,0<=x/\x<n
 up:∀ x∈S,x=goal∨rk goal<rk x
 vals:∀ p∈L,∃ i,p.2=.int i
theorem L5{S:List Int}{n:Nat}(q:S.Nodup)(h:∀ x∈S,0<=x/\x<n):S.length<=n:=by
 have:=pQ (l:=S.map .int) (k:=(cY n).map fun(i:Nat)=>V.int i) (List.Pairwise.map _ (λa b c e=>c (V.int.inj e)) q) λy hy=>by
  refine a7 (cD.mp hy) λx hx qa=>?_;subst qa
  exact d5 (h x hx) λY Z=>cD.mpr ⟨x.toNat,dY.mpr ((jK Y).mpr Z),by rw[dN Y]⟩
 rw[bQ,bQ,dM] at this;exact this
theorem SJ.push{S:List Int}{L:List (Int×V)}(h:SJ c rk n S L){o i:Int}(u:o∉S)(Y:0<=o)(Z:o<n)(I:rk c<rk o):SJ c rk n (S++[o]) (x7 L o (.int i)):=by
 rw[Cr (by rw[h.keys];exact u)]
 refine⟨by rw[cG,h.keys];rfl,?_,?_,?_,?_⟩
 ·refine eN.mpr ⟨h.nd,(by k_extra"m"),λx hx y hy e=>?_⟩
  rw[bV.mp hy] at e;exact u (e▸hx)
 ·intro x hx
  k_extra"aD"
  ·exact h.rng x q
  ·rw[bV.mp q];exact⟨Y,Z⟩
 ·intro x hx
  k_extra"aD"
  ·exact h.up x q
  ·rw[bV.mp q];exact .inr I
 ·intro p Ma
  rcases cz.mp Ma with q | q
  ·exact h.vals p q
  ·rw[bV.mp q];exact⟨i,rfl⟩
theorem Y9{l:List Int}:∀ y∈l.map V.int,p7 y:=λy L=>by refine a7 (cD.mp L) λi N Ja=>?_;subst Ja;exact⟨i,rfl⟩
theorem bL9{l:List Int}:G0 (l.map .int) (.int x)=true↔x∈l:=by
 rw[wC Y9 ⟨x,rfl⟩];constructor
 ·intro h;refine a7 (cD.mp h) λi c e=>?_;exact V.int.inj e▸c
 ·intro h;exact cD.mpr ⟨x,h,rfl⟩
theorem Hx{l:List Int}:((g7 (l.map .int)).any λy=>PyData.eqv y (dat (.int x)))=decide (x∈l):=by
 rw[mC,decide_eq_true_iff];exact bL9
theorem qe(h:1<=d):0+1<=8*d:=bN (by decide) (jb 8 h)
theorem BV(c:1<=d){l:List Int}:min (aF (l.map .int)) (dep (.int x))+1<=8*d:=by
 rw[p7.aF Y9,Nat.zero_min];exact qe c
theorem yf(c:1<=d){l:List Int}{Q:VP}(h:Q (.bool (decide (x∈l))) M):InL false d (l.map .int) (.int x) M Q:=
 InL.mk (p7.aq Y9) rfl (BV c) (by rw[Hx,iQ];exact h)
theorem aq1(c:1<=d){l:List Int}{Q:VP}(h:Q (.bool (!decide (x∈l))) M):InL true d (l.map .int) (.int x) M Q:=
 InL.mk (p7.aq Y9) rfl (BV c) (by rw[Hx,iY];exact h)
theorem bl9:upd (upd (upd (upd M a x) b y) a q) b Ja=upd (upd M a q) b Ja:=by
 funext c
 unfold upd;by_cases Z:c=b
 ·rw[if_pos Z,if_pos Z]
 ·rw[if_neg Z,if_neg Z]
  by_cases S:c=a
  ·rw[if_pos S,if_pos S,if_neg Z]
  ·rw[if_neg S,if_neg Z,if_neg S,if_neg S]
section
variable{g:G}{Q:V->Hp->Prop}
set_option tactic.hygienic true in
theorem Tn(N:Nm g)(hD:2<=D){nm:List (List Int)}{A:Int}{rk:Int->Nat}(Y:NmAt M na nm)(hA:Acy nm rk)(h0:0<=A)(h1:A<nm.length)
  (h:∀ D S L,M D=none->SJ A rk nm.length S L->Q (.ref D) (upd M D (.di L))):d8 g D true "steps_to" [.ref na,.int A] M Q X:=by
 refine bd N bJ8 (by k_extra"b") hD λcx p=>f5 Y.ex λrs hna hrl hrs=>?_
 have hz:(rs.map V.ref).length<=100:=by rw[bQ,hrl];exact Y.bG
 k_extra"ch"
 k_extra"w";rename_i D hD sA hsA;refine d5 (j3 hsA) λhne H=>?_
 have p0:=p;refine Whl.g p (λm T U=>∃ (S:List Int) (L:List (Int×V)) (a:Nat) (o5 K:Option V),SJ A rk nm.length S L/\m=nm.length-a/\a<=S.length/\U=upd (upd M D (.di L)) sA (.L (S.map .int))/\
  T=[some (.ref na),some (.int A),some (.ref D),some (.ref sA),some (.int a),o5,K]) (nm.length-0) ⟨[A],_,0,none,none,?_,rfl,cP _,rfl,rfl⟩ λcx p hB m hW=>?_
 ·exact⟨rfl,(by k_extra"m"),λx hx=>by rw[bV.mp hx];exact⟨h0,h1⟩,λx hx=>.inl (bV.mp hx),λp hp=>by rw[bV.mp hp];exact⟨0,rfl⟩⟩
 ·rintro _ _ O;refine Ln O λS L a o5 K hS Ja ha qb q3_=>?_;clear O;rw[Ja] at hW;subst qb;subst q3_
  have R:=L5 hS.nd hS.rng;have I:(S.map V.int).length=S.length:=bQ _;have hS2:(S.map V.int).length<=10000:=by rw[I];have:=Y.bG;exact yE hz hz2 R
  k_extra"w"
  ·rename_i w
   refine Idx.mk (D0) (by exact w) (by exact fu w (dz (cZ.mpr (bN (cu I) (bN R (bN (cu hz2.symm) hz)))) (by decide))) λx hx=>?_
   refine a7 (Aq hx) λline u Ja=>?_;subst Ja
   k_extra"b0"
   k_extra"w";refine x2 p (λi T U=>∃ (y:List Int) (c:List (Int×V)) (K:Option V),SJ A rk nm.length y c/\S.length<=y.length/\line∈y/\U=upd (upd M D (.di c)) sA (.L (y.map .int))/\
    T=[some (.ref na),some (.int A),some (.ref D),some (.ref sA),some (.int a),some (.int line),K]) ⟨S,L,K,hS,cO _,u,rfl,rfl⟩ (λcx p hB i hi hJ=>?_) ?_
   ·k_extra"bu"
    have hi':i<nm.length:=by exact pU hz2 hi
    have Ma:=L5 C.nd C.rng;have Z:(y.map V.int).length=y.length:=bQ _;have hS2':(y.map V.int).length<=10000:=by rw[Z];have:=Y.bG;exact yE hz hz2 Ma
    have hLl:c.length<=10000:=by have:=congrArg List.length C.keys;rw[bQ] at this;have:=Y.bG;exact bN (cu (by assumption)) (bN Ma (bN (cu hz2.symm) (bN hz (by decide))))
    have hsA2:upd M D (.di c) sA=none:=by rw[e9 _ _ hne];exact H
    obtain⟨r,hr⟩:∃ r,rs[i]?=some r:=⟨_,bO (by exact Qg hrl hz2 hi)⟩
    have hMr:=hrs i r hr;have e0:(0:Int)+(i:Int)=i:=dF _;rw[e0];have hup:line∈nm.getD i []->rk A<rk i:=λq=>by
     have:=hA.dn i line q;rcases C.up line E with e | e
     ·rw[e] at this;exact this
     ·exact gY e this
    k_extra"w";refine Idx.mk (D0) (ye hi) (by exact bl5 hz hi) λx hx=>?_
    obtain rfl:x=.ref r:=by
     have e:(rs.map V.ref)[i]?=some (.ref r):=by rw[bW,hr];rfl
     exact d7 (hx.symm.trans e)
    k_extra"w";refine yf (by k_extra"d") ?_
    k_extra"w"
    ·rename_i hin P
     have hno:(i:Int)∉y:=λq=>by
      obtain⟨v,hv,-⟩:=vK (L:=c) (k:=i) (by rw[C.keys];exact q)
      rw[hv] at P;exact P rfl
     obtain⟨v,hv,hv'⟩:=vK (L:=c) (k:=line) (by rw[C.keys];exact E)
     refine d4 (C.vals _ hv') λk ek=>?_
     obtain rfl:v=.int k:=ek;refine DAt.mk _ hv ?_;k_extra"w";refine hJ ⟨y++[(i:Int)],_,_,C.push (i:=k+1) hno (du i) (by exact cn1 hz2 hi) (hup hin),by rw[cC];exact mJ F,cz.mpr (.inl E),?_,rfl⟩
     rw[bl9,cG];rfl
    ·exact hJ ⟨y,c,_,C,F,E,rfl,rfl⟩
    ·exact hJ ⟨y,c,_,C,F,E,rfl,rfl⟩
   ·k_extra"bu"
    k_extra"w";exact hW (j:=nm.length-(a+1)) (DN (by exact cR (cJ.mp w) (bN (cu I) R))) ⟨y,c,a+1,_,_,C,rfl,by exact bN (cJ.mp w) (bN (cu I) F),rfl,rfl⟩
  ·k_extra"b0"
   exact hB (p0.r (Sub.upd hsA2) (h D S L hD hS))
theorem bE2(c:1<=d){Q:VP}(h:Q (.bool true) M):EqL false d [] [] M Q:=EqL.mk rfl rfl (qe c) h
theorem Gm(c:1<=d){Q:VP}(h:Q (.bool false) M):EqL true d [] [] M Q:=EqL.mk rfl rfl (qe c) h
set_option tactic.hygienic true in
theorem Yn(N:Nm g)(hD:3<=D){nm:List (List Int)}{y:Int}{rk:Int->Nat}(E:NmAt M na nm)(R:Acy nm rk)(Y:0<=y)(Z:y<nm.length)
  (h:∀ b,M b=none->Q (.ref b) (upd M b (.L []))):d8 g D true "ring_from" [.ref na,.int y] M Q X:=by
 refine bd N Zo (by k_extra"b") hD λcx p=>f5 E.ex λrs hna hrl T=>?_
 have hz:(rs.map V.ref).length<=100:=by rw[bQ,hrl];exact E.bG
 k_extra"ch"
 have U:y.toNat<nm.length:=W6 Y Z;obtain⟨r,hr⟩:∃ r,rs[y.toNat]?=some r:=⟨_,bO (by exact bH6 hrl U)⟩
 k_extra"w";refine Tn p.N (p.dd (by decide)) E R Y Z λD S L hD hS=>?_
 k_extra"w";refine Idx.mk Y (bj8 Z hz2) (by exact fu Z (dz (cZ.mpr (bN (cu hz2.symm) hz)) (by decide))) λx hx=>?_
 obtain rfl:x=.ref r:=by
  have e:(rs.map V.ref)[y.toNat]?=some (.ref r):=by rw[bW,hr];rfl
  exact d7 (hx.symm.trans e)
 have w:upd M D (.di L) r=some (.L ((nm.getD y.toNat []).map .int)):=g9 (T _ r hr) hD;have P:∀ j∈nm.getD y.toNat [],i9 L j=none:=λj H=>by
  refine YF ?_;rw[hS.keys];intro q;have I:=R.dn _ j H;rw[show((y.toNat:Nat):Int)=y by exact dN Y] at I
  rcases hS.up j q with e | e
  ·rw[e] at I;exact ik _ I
  ·exact ik _ (gY I e)
 k_extra"w";refine CLoop.g p (λC A u=>upd M D (.di L)=u/\A=[]/\∃ F:List Int,C=F.map .int/\∀ j∈F,j∈nm.getD y.toNat []) (by rw[bQ];exact L9 (E.len (i:=y.toNat))) ⟨rfl,rfl,_,rfl,λj H=>H⟩ (λcx p v C A hJ E=>?_) ?_
 ·rintro _ O;obtain⟨rfl,rfl,F,hl,hm⟩:=O
  refine⟨w,?_⟩;cases F with
  | nil=>cases hl
  | cons j F=>
   refine d5 (List.cons.inj hl) λe1 Ja=>?_;rw[Ja] at hJ E hl
   subst e1;have H:=P j (hm j (.head _));k_extra"w"
   ·rename_i q;rw[H] at q;exact absurd rfl q
   ·exact E ⟨rfl,rfl,F,rfl,λi hi=>hm i (.tail _ hi)⟩
 ·rintro A _ O;refine i4 O λJa qb _=>?_;clear O;subst Ja;subst qb
  refine⟨w,λc hc=>?_⟩
  k_extra"w";rename_i e he;refine bE2 (by k_extra"d") ?_
  k_extra"w";rename_i b hb;refine d5 (j3 hb) λhb1 pO=>d5 (j3 pO) λhb3 K=>?_
  exact d5 (j3 K) λhb5 Ma=>p.r (G2 (((Sub.upd hD).trans (Sub.upd hc)).trans (Sub.upd he))) (h b Ma)
end
structure RuleOK(z:Lim)(v:V):Prop where
 ok:Internal.ok z 8 v=true
 few:∀ u,(f9 8 v u).length<64
 cld:∀ M,Cld M v
structure Nam(rh:List V)(nm:List (List Int)):Prop where
 len:nm.length=rh.length
 iff:∀ (i:Nat) l v,nm[i]?=some l->rh[i]?=some v->∀ y,y∈l.map V.int↔y∈f9 8 v (bM "line")
 l100:∀ l∈nm,l.length<=100
structure RsAt(M:Hp)(rs:List Addr)(nm:List (List Int)):Prop where
 len:rs.length=nm.length
 at':∀ (i:Nat) r,rs[i]?=some r->M r=some (.L ((nm.getD i []).map .int))
theorem rI{q:Type}{l:List q}{x y:q}(h:(l++[x])[i]?=some y):l[i]?=some y∨(i=l.length/\y=x):=by
 by_cases c:i<l.length
 ·rw[gP c] at h;exact .inl h
 ·rw[eX (dO c)] at h
  obtain⟨w,e⟩:=cj.mp h;have Y:=Nat.lt_one_iff.mp w;refine .inr ⟨gf (iB.mp Y) (dO c),?_⟩;rw[<- e];simp[Y]
theorem RsAt.snoc{M:Hp}{rs:List Addr}{nm:List (List Int)}{b:Addr}{l:List Int}(h:RsAt M rs nm)(Y:M b=none):RsAt (upd M b (.L (l.map .int))) (rs++[b]) (nm++[l]):=by
 refine⟨by rw[cC,cC,h.len];rfl,λi r e=>?_⟩
 rcases rI e with q | ⟨rfl,rfl⟩
 ·have c:=h.len▸(cj.mp q).1
  rw[cI,gP c,<- cI];exact g9 (h.at' i r q) Y
 ·rw[d6,cI,h.len,eX (cO _),ji];rfl
theorem Nam.snoc{rh:List V}{nm:List (List Int)}{v:V}{l:List Int}(h:Nam rh nm)(hl:l.length<=100)(x:∀ y,y∈l.map V.int↔y∈f9 8 v (bM "line")):Nam (rh++[v]) (nm++[l]):=by
 refine⟨by rw[cC,cC,h.len];rfl,λi w S E e2=>?_,λw u=>?_⟩
 ·rcases rI E with c | ⟨c,rfl⟩
  ·rcases rI e2 with q2 | ⟨q2,rfl⟩
   ·exact h.iff i w S c q2
   ·have:=(cj.mp c).1;rw[h.len,q2] at this;exact absurd this (ik _)
  ·rcases rI e2 with q2 | ⟨q2,rfl⟩
   ·have:=(cj.mp q2).1;rw[<- h.len,c] at this;exact absurd this (ik _)
   ·exact x
 ·rcases cz.mp u with q | q
  ·exact h.l100 w q
  ·rw[bV.mp q];exact hl
theorem Nam.nil:Nam [] []:=⟨rfl,λi l v e=>(by cases e),λl hl=>(by cases hl)⟩
theorem RsAt.nm{nm:List (List Int)}(h:RsAt M rs nm)(q:Nam rh nm)(hz:rh.length<=100)(O:M c=none):NmAt (upd M c (.L (rs.map .ref))) c nm:=
 ⟨⟨rs,d6 _ _ _,h.len,λi r e=>g9 (h.at' i r e) O⟩,q.len▸hz,q.l100⟩
section
variable{g:G}{Q:V->Hp->Prop}
theorem Ii{K:KT}{s:List V}{J:Lo}(p:Pk pq tab g n QQ R c)(E:11<=n)(Ma:∀ r∈rh,RuleOK z r)(hz:rh.length<=100)(Z:∀ M',Sub M M'->P M')
  (h:∀ rs nm M' b,Sub M M'->RsAt M' rs nm->Nam rh nm->M' b=none->K c (.ref b::s) J (upd M' b (.L (rs.map .ref)))):CLoop ((IC.e (.call "named" (.cons (.v 0) (.cons (.k (.str "line")) .nil)))).w true) K [] rh P c s J M:=by
 refine CLoop.g p (λu A M'=>∃ done rs nm,rh=done++u/\A=List.map V.ref rs/\Sub M M'/\RsAt M' rs nm/\Nam done nm) (bN hz (by decide)) ⟨[],[],[],rfl,rfl,Sub.refl _,⟨rfl,λi r e=>(by cases e)⟩,Nam.nil⟩ (λcx p v u A H U=>?_) ?_
 ·rintro M' x;refine x4 x λdone rs nm e Ja C I F=>?_;clear x;rw[Ja] at H U
  refine⟨Z M' C,?_⟩;have w:=Ma v (by rw[e];simp)
  refine d4 (ug (Hu rfl w.ok)) λns S=>?_
  have T:=w.few (bM "line");rw[show(bM "line")=("line" : Str) from rfl,S,bQ] at T
  refine J7 p.N (p.dd E) w.ok S T λb L Y hS O=>H ⟨done++[v],rs++[b],nm++[L],by rw[e,dB];rfl,by rw[cG];rfl,C.trans (Sub.upd Y),I.snoc Y,F.snoc ?_ λy=>?_⟩
  ·exact bN hS (bN (dK T) (by decide))
  ·rw[S,cD,cD];exact⟨λq=>a7 q λi a b=>⟨i,(O i).mp a,b⟩,λq=>a7 q λi a b=>⟨i,(O i).mpr a,b⟩⟩
 ·rintro A M' x;refine x4 x λdone rs nm e Ja C I E=>?_;clear x;subst Ja
  refine⟨Z M' C,λc hc=>h rs nm M' c C I ?_ hc⟩
  rw[dC] at e;rw[e];exact E
set_option tactic.hygienic true in
theorem Wv(N:Nm g)(hD:12<=D){A:Addr}(F:M A=some (.L rh))(Ma:∀ r∈rh,RuleOK z r)(hz:rh.length<=100)(R:∀ nm,Nam rh nm->∃ rk,Acy nm rk)
  (h:∀ b,M b=none->Q (.ref b) (upd M b (.L []))):d8 g D true "ring_of" [.ref A] M Q X:=by
 refine bd N bx9 (by k_extra"b") hD λcx p=>?_
 k_extra"w";refine Ii p (by decide) Ma hz (λM' P=>P _ _ F) λrs nm M' c P hr I O=>?_
 ·refine d4 (R nm I) λrk C=>?_
  have w:=P _ _ F;k_extra"w";rename_i u y;refine x2 p (λi S L=>∃ o3 x,Sub (upd (upd M' c (.L (rs.map .ref))) u (.L [])) L/\S=[some (.ref A),some (.ref c),some (.ref u),o3,x]) ⟨none,none,Sub.refl _,rfl⟩ (λcx p hB i hi T=>?_) ?_
  ·k_extra"ci"
   have H:=((hr.nm I hz O).sub (Sub.upd y)).sub U;have Y:=U _ _ (d6 _ _ _);k_extra"w";refine Yn p.N (p.dd (by decide)) H C (by exact YJ) (Uq I.len hi) λb Y=>?_
   k_extra"ct"
   k_extra"w";exact T ⟨_,_,(U.trans (Sub.upd Y)).trans (Sub.upd Z),rfl⟩
  ·k_extra"ci"
   k_extra"w";refine p.r (M':=upd M u (.L [])) (Sub.trans ?_ U) (h u ?_)
   ·exact G2 (P.trans (Sub.upd O))
   ·refine d5 (j3 y) λh1 K=>?_
    cases q:M u with
    | none=>rfl
    | some o=>rw[P _ _ q] at K;cases K
structure FormOK(rh tc:List V)(C ow:Int):Prop where
 rule:∀ r∈rh,RuleOK ⟨rh.length,tc.length,C⟩ r
 l1:1<=rh.length
 l40:rh.length<=40
 t5:tc.length<=5
 tab:∀ t∈tc,u9 t=true/\∀ M,Cld M t
 c0:0<=C
 c8:C<=8
 o0:0<=ow
 o1:ow<rh.length
 acy:∀ nm,Nam rh nm->∃ rk,Acy nm rk
theorem r9(Z:a<=i)(S:i<=b):f8 (.int i) a b=true:=by
 show(decide (a<=i)&&decide (i<=b))=true;rw[decide_eq_true Z,decide_eq_true S];rfl
set_option tactic.hygienic true in
theorem WM(N:Nm g)(hD:14<=D){E:Int}(hla:M P=some (.L rh))(Ja:M T=some (.L tc))(F:FormOK rh tc C E)
  (h:Q (.tup [.tup rh,.tup tc,.int C,.int E]) M):d8 g D true "form_of" [.ref P,.ref T,.int C,.int E] M Q X:=by
 refine bd N ba4 (by k_extra"b") hD λcx p=>?_
 have t5:=F.t5;have l1:=F.l1;have O:=F.l40;have hc:=r9 F.c0 F.c8;have ho:=r9 (b:=(rh.length:Int)-1) F.o0 (by have:=F.o1;exact Ca this)
 have R:∀ M,Ok M (.int C):=λM a e=>by cases e
 have y:∀ M,Ok M (.int E):=λM a e=>by cases e
 k_extra"w";refine CLoop.g p (λH A u=>M=u/\∃ done,tc=done++H/\A=(done.map λ_=>true).map V.bool) (bN t5 (cT ..)) ⟨rfl,[],rfl,rfl⟩ (λcx p v H A K hN=>?_) ?_
 ·rintro _ hh;obtain⟨rfl,done,e,rfl⟩:=hh
  refine⟨Ja,?_⟩;obtain⟨L,Ma⟩:=F.tab v (by rw[e];simp)
  k_extra"w";refine Lg p.N (p.dd (by decide)) (Ma _) ?_
  rw[L];exact K ⟨rfl,done++[v],by rw[e,dB];rfl,by rw[cG,cG];rfl⟩
 ·rintro A _ hh;obtain⟨rfl,done,e,rfl⟩:=hh
  refine⟨Ja,λc q=>?_⟩
  refine AllB.mk _ (d6 _ _ _) ?_;rw[show(done.map λ_=>true).all id=true by rw[lV];exact cX.mpr λ_ _=>rfl]
  k_extra"w";refine G1 p.N (p.dd (by decide)) (R _) ?_
  k_extra"w";refine G1 p.N (p.dd (by decide)) (y _) ?_
  k_extra"w";refine LoopR.held rh (by k_extra"h") (Loop.g p (λH S u=>upd M c (.L ((done.map λ_=>true).map V.bool))=u/\(∀ x∈H,x∈rh)/\∃ o,S=[some (.ref P),some (.ref T),some (.int C),some (.int E),some (.int rh.length),o]) ⟨rfl,λx U=>U,none,rfl⟩ (λcx p hB v H K=>?_) ?_)
  ·rintro _ _ hh;obtain⟨rfl,I,o,rfl⟩:=hh
   refine⟨by k_extra"h",?_⟩
   have w:=F.rule v (I v (by k_extra"m"))
   have hok:=w.ok;k_extra"w";refine cw8 (z:=⟨rh.length,tc.length,C⟩) p.N (p.dd (by decide)) (w.cld _) ?_
   k_extra"w";exact K ⟨rfl,λx U=>I x (.tail _ U),_,rfl⟩
  ·rintro _ _ hh;obtain⟨rfl,-,o,rfl⟩:=hh
   refine⟨by k_extra"h",?_⟩
   k_extra"w";refine Wv p.N (p.dd (by decide)) (rh:=rh) (by k_extra"h") F.rule (uT O) F.acy λb Y=>?_
   k_extra"ct"
   k_extra"w";exact p.r (((Sub.upd q).trans (Sub.upd Y)).trans (Sub.upd Z)) h
end
noncomputable def xd(F:List Int)(y:V):Bool:=match y with
 | .int j=>decide (j∈F)
 | _=>false
def C3(rh:List V)(F:List Int)(i:Nat):Bool:=!decide ((i:Int)∈F)&&(f9 8 (rh.getD i .none) (bM "line")).all (xd F)
def V9(rh:List V)(F:List Int):Option Nat:=(cY rh.length).find? (C3 rh F)
class inductive Ordr (rh:List V):List Int->Prop
 | nil:Ordr rh []
 | snoc {F:List Int} {i:Nat} (h:Ordr rh F) (e:V9 rh F=some i):Ordr rh (F++[(i:Int)])
theorem vY{F:List Int}(h:V9 rh F=some i):i<rh.length/\C3 rh F i=true:=⟨dY.mp (gU h),mF h⟩
theorem bJ0{F:List Int}(h:C3 rh F i=true):(i:Int)∉F:=λq=>by
 unfold C3 at h;rw[decide_eq_true q] at h;cases h
theorem Ordr.ok{F:List Int}(h:Ordr rh F):F.Nodup/\∀ x∈F,0<=x/\x<rh.length:=by
 induction h with
 | nil=>exact⟨.nil,λx hx=>by cases hx⟩
 | snoc h e c=>
  refine d5 (vY e) λZ S=>?_
  refine⟨eN.mpr ⟨c.1,by simp,λx hx y hy q=>?_⟩,λx hx=>?_⟩
  ·rw[bV.mp hy] at q;exact(bJ0 S) (q▸hx)
  ·k_extra"aD"
   ·exact c.2 x q
   ·rw[bV.mp q];exact⟨du _,cJ.mpr Z⟩
theorem D5{c:Type}{l:List c}{x:c}(h:i<l.length):l[i]?=some (l.getD i x):=by rw[cI,bO h];rfl
theorem Nam.all(h:Nam rh nm)(u:i<rh.length)(F:List Int):(nm.getD i []).all (λj=>decide (j∈F))=(f9 8 (rh.getD i .none) (bM "line")).all (xd F):=by
 have w:=h.iff i _ _ (D5 (x:=[]) (h.len▸u)) (D5 (x:=.none) u);rw[mC,cX,cX];constructor
 ·intro q y L
  refine a7 (cD.mp ((w y).mpr L)) λj c Ja=>?_;subst Ja
  exact q j c
 ·intro q j c
  exact q (.int j) ((w _).mp (cD.mpr ⟨j,c,rfl⟩))
theorem Yd(x:Nam rh nm)(R:Acy nm rk){F:List Int}(hF:F.length<rh.length):∃ i,V9 rh F=some i:=by
 have c:∀ (k:Nat) (i:Nat),i<rh.length->(i:Int)∉F->rk i=k->∃ j,j<rh.length/\C3 rh F j=true:=by
  intro k;induction k using jT with
  | ind k E=>
   intro i hi C K;cases q:(nm.getD i []).all (λj=>decide (j∈F)) with
   | true=>exact⟨i,hi,by unfold C3;rw[decide_eq_false C,<- x.all hi,q];rfl⟩
   | false=>
    refine a7 (List.all_eq_false.mp q) λj w u=>?_
    have u:j∉F:=λe=>u (decide_eq_true e)
    refine d5 (R.rng i j w) λh0 Z=>?_
    have e:=dN h0;exact E (rk j) (K▸(R.dn i j w)) j.toNat (by rw[<- x.len];exact(jK h0).mpr Z) (by rw[e];exact u) (by rw[e])
 have A:∃ i,i<rh.length/\((i:Nat):Int)∉F:=by
  refine eF λhno=>?_
  k_extra"bn"
  have:=pQ (l:=(cY rh.length).map fun(i:Nat)=>V.int i) (k:=F.map .int) (List.Pairwise.map _ (λa b hab e=>hab (Int.ofNat.inj (V.int.inj e))) jD) λy hy=>by
   refine a7 (cD.mp hy) λi hi qa=>?_;subst qa
   exact cD.mpr ⟨_,hall i (dY.mp hi),rfl⟩
  rw[bQ,bQ,dM] at this;exact ik _ (cR hF this)
 refine a7 A λi hi C=>a7 (c _ i hi C rfl) λj w P=>?_
 cases q:V9 rh F with
 | some k=>exact⟨k,rfl⟩
 | none=>exact absurd P (List.find?_eq_none.mp q j (dY.mpr w))
theorem cv5(c:i<n)(Ma:p i=true)(Y:∀ k,k<i->p k=false):(cY n).find? p=some i:=by
 rw[List.find?_eq_some_iff_getElem];refine⟨Ma,i,by rw[dM];exact c,List.getElem_range ..,λj q=>?_⟩
 rw[List.getElem_range,Y j q];rfl
theorem Qk(Z:Sub M Y)(S:w7 f Y M')(c:M' f=some o):Sub (upd M f o) M':=λa U e=>by
 by_cases q:a=f
 ·subst q;rw[d6] at e;rw[c];exact e
 ·rw[e9 _ _ q] at e;exact S a U q (Z _ _ e)
theorem j4(h:Sub M M')(k:M' a=none):M a=none:=by
 cases q:M a with
 | none=>rfl
 | some o=>rw[h _ _ q] at k;cases k
section
variable{g:G}{Q:V->Hp->Prop}
set_option tactic.hygienic true in
theorem WP(N:Nm g)(hD:12<=D)(hR:∀ r∈rh,RuleOK z r)(hz:rh.length<=100)(hA:∀ nm,Nam rh nm->∃ rk,Acy nm rk)
  (h:∀ f F,M f=none->Ordr rh F->F.length=rh.length->Q (.ref f) (upd M f (.L (F.map .int)))):d8 g D true "order_of" [.tup [.tup rh,.tup tc,x,y]] M Q X:=by
 refine bd N Rg (by k_extra"b") hD λcx p=>?_
 k_extra"w";refine Ii p (by decide) hR hz (λM' hs=>trivial) λrs nm M' c hs hr hn hc=>?_
 have p0:=p;refine d4 (hA nm hn) λrk hacy=>?_
 have hN:=hr.nm hn hz hc;have S:=hn.len;have hrl:=hr.len;k_extra"w";rename_i f hf;generalize R:upd M' c (.L (rs.map .ref))=Y at hf hN;have hsN:Sub M Y:=by rw[<- R];exact hs.trans (Sub.upd hc)
 have hcN:Y c=some (.L (rs.map .ref)):=by rw[<- R];exact d6 _ _ _
 have hcf:c≠f:=j8 hcN hf;have hrsN:∀ (i:Nat) r,rs[i]?=some r->Y r=some (.L ((nm.getD i []).map .int)):=λi r e=>by rw[<- R];exact g9 (hr.at' i r e) hc
 have K:(rs.map V.ref).length=rh.length:=by rw[bQ,hrl,S]
 have hcl2:(rs.map V.ref).length<=10000:=by exact Dq hz K
 refine Whl.g p (λm J' L=>∃ (F:List Int) (o3:Option V),Ordr rh F/\m=rh.length-F.length/\F.length<=rh.length/\w7 f Y L/\L f=some (.L (F.map .int))/\
  J'=[some (.tup [.tup rh,.tup tc,x,y]),some (.ref c),some (.ref f),o3]) (rh.length-0) ⟨[],none,.nil,rfl,cP _,w7.upd,d6 _ _ _,rfl⟩ λcx p hB m hW=>?_
 rintro _ L O;refine bl6 O λF o3 hF qa hFl hst A qb=>?_;clear O;rw[qa] at hW;subst qb
 have hFm:(F.map V.int).length=F.length:=bQ _;have hFz:(F.map V.int).length<=10000:=by exact bN (cu hFm) (bN hFl (bN hz (by decide)))
 have hc'':=hst c _ hcf hcN;k_extra"w"
 ·rename_i w
  have w:F.length<rh.length:=by exact bU1 K hFm w
  refine x2 p (λi J' E=>∃ (o3:Option V),(∀ k,k<i->C3 rh F k=false)/\w7 f Y E/\E f=some (.L (F.map .int))/\J'=[some (.tup [.tup rh,.tup tc,x,y]),some (.ref c),some (.ref f),o3]) ⟨o3,λk hk=>absurd hk (gA _),hst,A,rfl⟩ (λcx p hB i hi hJ2=>?_) ?_
  ·k_extra"cC";subst qa
   k_extra"K";have hi':i<rh.length:=by exact pU K hi
   have hc3:=Ja c _ hcf hcN;obtain⟨r,hr'⟩:∃ r,rs[i]?=some r:=⟨_,bO (by exact VL S hrl K hi)⟩
   have hrN:=hrsN i r hr';have hr3:=Ja r _ (j8 hrN hf) hrN;have hnl:(nm.getD i []).length<=100:=hN.len;k_extra"bG"
   k_extra"w"
   ·rename_i C
    exact hJ2 ⟨_,λk hk=>by
     try clear e0;try clear hrN;rcases lW.mp hk with q | rfl
     ·exact Ma k q
     ·unfold C3;rw[decide_eq_true C];rfl,Ja,I,rfl⟩
   ·rename_i C
    refine Idx.mk (by exact D0) (by exact ye hi) (by exact cw9 hz K hi) λx hx=>?_
    obtain rfl:x=.ref r:=by
     have e:(rs.map V.ref)[i]?=some (.ref r):=by rw[bW,hr'];rfl
     exact d7 (hx.symm.trans e)
    k_extra"w";refine CLoop.g p (λU Z M4=>E=M4/\∃ done u:List Int,nm.getD i []=done++u/\U=u.map .int/\Z=(done.map λj=>decide (j∈F)).map V.bool) (by rw[bQ];exact L9 hnl) ⟨rfl,[],_,rfl,rfl,rfl⟩ (λcx p v U Z hJ3 hN=>?_) ?_
    ·try clear hr';try clear hnl;try clear hx;try clear hN;rintro _ O;obtain⟨rfl,done,u,e,H,rfl⟩:=O
     refine⟨hr3,?_⟩;cases u with
     | nil=>cases H
     | cons j u=>
      refine d5 (List.cons.inj H) λe1 qa=>?_;rw[qa] at hJ3 H
      subst e1;k_extra"w";refine yf (by k_extra"d") ?_
      exact hJ3 ⟨rfl,done++[j],u,by rw[e,dB];rfl,rfl,by rw[cG,cG];rfl⟩
    ·rintro Z _ O;obtain⟨rfl,done,u,e,H,rfl⟩:=O
     refine⟨hr3,λq hq=>?_⟩
     try clear hr3;obtain rfl:u=[]:=by cases u with | nil=>rfl | cons _ _=>cases H
     rw[dC] at e;refine AllB.mk _ (d6 _ _ _) ?_;have ea:(done.map λj=>decide (j∈F)).all id=(f9 8 (rh.getD i .none) (bM "line")).all (xd F):=by
      rw[<- hn.all hi',e,lV];rfl
     rw[ea];have hqf:f≠q:=j8 I hq;have hMf4:upd E q (.L ((done.map λj=>decide (j∈F)).map V.bool)) f=some (.L (F.map .int)):=g9 I hq
     have T:w7 f Y (upd E q (.L ((done.map λj=>decide (j∈F)).map V.bool))):=Ja.sub (Sub.upd hq)
     k_extra"w"
     ·rename_i P
      have hs:C3 rh F i=true:=by unfold C3;rw[decide_eq_false C,P];rfl
      have hnext:V9 rh F=some i:=cv5 hi' hs Ma;exact hB (hW (j:=rh.length-(F++[(i:Int)]).length) (by rw[cC];exact DN w) ⟨F++[(i:Int)],_,.snoc hF hnext,rfl,by rw[cC];exact w,T.trans w7.upd,by rw[d6,cG];rfl,rfl⟩)
     ·rename_i P
      exact hJ2 ⟨_,λk hk=>by
       try clear H;try clear e;try clear hJ2;try clear hi';try clear C;try clear ea;rcases lW.mp hk with q | rfl
       ·exact Ma k q
       ·unfold C3;rw[P,iR],T,hMf4,rfl⟩
  ·k_extra"cC";try clear hk;subst qa
   refine d4 (Yd hn hacy w) λi hi=>?_
   refine d5 (vY hi) λh1 h2=>?_
   have h3:=Ma i (by rw[K];exact h1)
   rw[h2] at h3;try clear hi;try clear Ma;cases h3
 ·have hFe:F.length=rh.length:=by lia
  exact hB (p0.r (Qk hsN hst A) (h f F (j4 hsN hf) hF hFe))
end
theorem Jy{q c:Type}(f:q->c)(l:List q)(i:Nat):(l.map f).eraseIdx i=(l.eraseIdx i).map f:=by
 induction l generalizing i with
 | nil=>rfl
 | cons x l u=>cases i with
  | zero=>rfl
  | succ i=>exact congrArg (f x :: ·) (u i)
section
variable{g:G}{Q:V->Hp->Prop}
theorem md{k:Int}(h:0<k):0<=x%k/\x%k<k:=⟨fV _ (jR h),gq _ h⟩
theorem bj6(N:Nm g)(hD:1<=D){u:Int}(I:7<=u)(Y:u<=40)(h:∀ m t c,1<=m->m<=u->0<=t->t<=5->0<=c->c<=8->Q (.tup [.int m,.int t,.int c]) M):d8 g D true "_law_sizes" [.int q,.int u] M Q X:=by
 refine bd N Rd (by k_extra"b") hD λcx p=>?_
 have H:∀ m t:Int,1<=m->m<=u->0<=t->t<=5->HS.w true l7 cx [] [some (.int q),some (.int u),some (.int m),some (.int t),none] M:=λm t y A w T=>by
  have E:=md (x:=q / 88128) (k:=4) (by decide)
  have C:=md (x:=q / 2820096) (k:=5) (by decide)
  k_extra"w"
  ·exact p.h (h _ _ _ y A w T (by exact jY (by decide) (fV _ (by decide))) (by lia))
  ·exact p.h (h _ _ _ y A w T (fV _ (by decide)) (by exact cQ (gV (gq _ (by decide))) (by decide)))
 have F:∀ m:Int,1<=m->m<=u->Ci.w true l7 cx [] [some (.int q),some (.int u),some (.int m),none,none] M:=λm y A=>by
  have E:=md (x:=q / 1224) (k:=3) (by decide)
  have C:=md (x:=q / 29376) (k:=3) (by decide)
  k_extra"w"
  ·exact Stop.mk (H _ _ y A (by exact jY (by decide) (fV _ (by decide))) (by lia))
  ·exact Stop.mk (H _ _ y A (fV _ (by decide)) (by exact cQ (gV (gq _ (by decide))) (by decide)))
 have E:=md (x:=q) (k:=6) (by decide)
 have C:=md (x:=q / 36) (k:=u-6) (by exact lq I)
 k_extra"w"
 ·exact Stop.mk (F _ (bv0 C) (Ro C))
 ·exact Stop.mk (F _ (by exact cQ (by decide) (Int.add_le_add_left (fV _ (by decide)) _)) (by lia))
structure Prm(n:Nat)(O:List Int):Prop where
 len:O.length=n
 nd:O.Nodup
 rng:∀ x∈O,0<=x/\x<n
theorem HH(n:Nat):m6 0 1 n=((cY n).map fun(i:Nat)=>(i:Int)).map V.int:=by
 unfold m6;rw[fK];refine gD λi N=>?_
 show V.int (0+(i:Int)*1)=V.int i;rw[dF,Int.mul_one]
theorem bE6{l:List Int}(h:l[k]?=some x)(c:l.Nodup):x∉l.eraseIdx k/\(l.eraseIdx k).Nodup/\(∀ y,y∈l.eraseIdx k->y∈l)/\(l.eraseIdx k).length+1=l.length:=by
 obtain⟨K,rfl⟩:=cj.mp h;refine⟨λq=>?_,c.sublist (List.eraseIdx_sublist _ _),λy L=>List.mem_of_mem_eraseIdx L,by rw[List.length_eraseIdx,if_pos K];exact kI (dq (cP _) K)⟩
 refine a7 (List.mem_eraseIdx_iff_getElem?.mp q) λj w e=>?_
 obtain⟨A,u⟩:=cj.mp e;exact w ((lG c).mp u)
theorem Zh{s:Addr}{A:AObj}:upd (upd (upd (upd (upd (upd M s x) a y) b z) s u) a Ja) b A=upd (upd (upd M s u) a Ja) b A:=funext λc=>by
 by_cases Z:c=b
 ·rw[Z,d6,d6]
 rw[e9 _ _ Z,e9 _ _ Z];by_cases S:c=a
 ·rw[S,d6,d6]
 rw[e9 _ _ S,e9 _ _ S];by_cases q:c=s
 ·rw[q,d6,d6]
 rw[e9 _ _ q,e9 _ _ Z,e9 _ _ S,e9 _ _ q,e9 _ _ q]
set_option tactic.hygienic true in
theorem bR6(N:Nm g)(hD:2<=D){n:Int}{many:Nat}(Y:0<=n)(Z:n<2147483647)(hz:many<=100)(h:∀ b O F,b≠st->M b=none->Prm many O->0<=F->F<2147483647->Q (.ref b) (upd (upd M st (.L [.int F])) b (.L (O.map .int)))) :
  d8 g D true "_law_order" [.ref st,.int many] (upd M st (.L [.int n])) Q X:=by
 refine bd N VF (by k_extra"b") hD λcx p=>?_
 k_extra"w";rename_i a ha b hb;refine d5 (j3 ha) λE A=>d5 (j3 hb) λH pO=>?_
 refine d5 (j3 pO) λT K=>?_
 have lh:(m6 0 1 (many:Int).toNat).length=many:=by rw[show(many:Int).toNat=many from rfl,HH,bQ,bQ,dM]
 rw[show(many:Int).toNat=many from rfl,HH]
 have p0:=p;refine Whl.g p (λm J' M'=>∃ (L O:List Int) (n:Int),m=L.length/\L.length+O.length=many/\O.Nodup/\L.Nodup/\(∀ x∈O,x∉L)/\(∀ x,x∈O∨x∈L->0<=x/\x<many)/\0<=n/\n<2147483647/\M'=upd (upd (upd M st (.L [.int n])) a (.L (L.map .int))) b (.L (O.map .int))/\
  J'=[some (.ref st),some (.int many),some (.ref a),some (.ref b)]) many ⟨_,[],n,?_,?_,.nil,?_,λx U=>(by cases U),?_,Y,Z,rfl,rfl⟩ λcx p hB m hW=>?_
 ·rw[bQ,dM]
 ·rw[bQ,dM];rfl
 ·exact List.Pairwise.map _ (λa b c e=>c (Int.ofNat.inj e)) jD
 ·rintro x (U | U)
  ·cases U
  ·refine a7 (cD.mp U) λi hi qa=>?_;subst qa
   exact⟨du i,cJ.mpr (dY.mp hi)⟩
 ·rintro _ _ hh;obtain⟨L,O,n,rfl,P,hO,hL,Ja,I,Y,Z,rfl,rfl⟩:=hh
  have Ma:(L.map V.int).length=L.length:=bQ _;have hl2:(O.map V.int).length=O.length:=bQ _;have c:=H;k_extra"w"
  ·rename_i C
   refine I2 p.N (p.dd (by decide)) (n:=n) (by k_extra"h") Y Z (C) (by lia) λr F hr0 hr1 hn R=>?_
   k_extra"w";intro x U;rw[bW] at U;refine a7 (cL.mp U) λy S qa=>?_;clear Ma;subst qa
   refine H4 (bE6 S hL) λe1 e2 e3 e4=>?_
   k_extra"w";refine hW (j:=(L.eraseIdx r.toNat).length) (by lia) ⟨L.eraseIdx r.toNat,O++[y],F,rfl,by rw[cC];show _+(O.length+1)=_;lia,?_,e2,?_,?_,hn,R,?_,rfl⟩
   ·refine eN.mpr ⟨hO,by simp,λu hu w hw q=>?_⟩
    rw[bV.mp hw] at q;exact Ja u hu (q▸cA S)
   ·intro u hu q
    rcases cz.mp hu with hu | hu
    ·exact Ja u hu (e3 u q)
    ·rw[bV.mp hu] at q;exact e1 q
   ·rintro u (hu | hu)
    ·rcases cz.mp hu with hu | hu
     ·exact I u (.inl hu)
     ·rw[bV.mp hu];exact I y (.inr (cA S))
    ·exact I u (.inr (e3 u hu))
   ·rw[Jy,Zh,cG];rfl
  ·clear hW;clear hL;clear Ja;obtain rfl:L=[]:=fP.mp (by lia)
   refine hB (p0.r ?_ (h b O n T K ⟨by simpa using P,hO,λx U=>I x (.inl U)⟩ Y Z))
   exact G2 (Sub.upd (by rw[e9 _ _ E];exact A))
end
noncomputable def u8(p:Int×Int×Int):V:=.tup [.int p.1,.int p.2.1,.int p.2.2]
structure RowB(p:Int×Int×Int):Prop where
 a0:0-1000000000<=p.1
 a1:p.1<=1000000000
 b0:0-1000000000<=p.2.1
 b1:p.2.1<=1000000000
 c0:0<=p.2.2
 c1:p.2.2<=100
theorem RowB.ok(h:RowB p):u7 (u8 p)=true:=by
 show(f8 (.int p.1) _ _&&(f8 (.int p.2.1) _ _&&f8 (.int p.2.2) _ _))=true;rw[r9 h.a0 h.a1,r9 h.b0 h.b1,r9 h.c0 h.c1];rfl
theorem Lf(p:Int×Int×Int):Cld M (u8 p):=.t3 (.int _) (.int _) (.int _)
theorem Ua{R:List (Int×Int×Int)}(Z:1<=R.length)(u:R.length<=20)(w:∀ p∈R,RowB p)(hp:R.Pairwise (λp q=>p.1<q.1)):u9 (.tup (R.map u8))=true:=by
 show((decide (1<=(R.map u8).length)&&decide ((R.map u8).length<=20))&&((R.map u8).all u7&&(cY ((R.map u8).length-1)).all (E0 (R.map u8))))=true;rw[bQ,decide_eq_true Z,decide_eq_true u];have E:(R.map u8).all u7=true:=by
  rw[cX];intro x hx;refine a7 (cD.mp hx) λp hp qa=>?_;subst qa
  exact(w p hp).ok
 rw[E];show(cY (R.length-1)).all _=true;rw[cX];intro k K;have K:k<R.length-1:=dY.mp K;have c:k<R.length:=cR K (Nat.sub_le _ _);have C:k+1<R.length:=Nat.add_lt_of_lt_sub K;unfold E0;have y:(R.map u8)[k]?=some (u8 R[k]):=by rw[bW,bO c];rfl
 have A:(R.map u8)[k+1]?=some (u8 R[k+1]):=by rw[bW,bO C];rfl
 rw[tD y,tD A];exact decide_eq_true (jf.mp hp k (k+1) c C (gF k))
def m8(a b:Addr)(M M':Hp):Prop:=∀ c o,c≠a->c≠b->M c=some o->M' c=some o
theorem m8.trans(h:m8 a b M q)(k:m8 a b q O):m8 a b M O:=λc o Z S e=>k c o Z S (h c o Z S e)
theorem m8.l:m8 a b M (upd M a x):=λc o Z N e=>by rw[e9 _ _ Z];exact e
theorem m8.r:m8 a b M (upd M b x):=λc o N S e=>by rw[e9 _ _ S];exact e
section
variable{g:G}{Q:V->Hp->Prop}
theorem wi(N:Nm g)(hD:2<=D)(hst:M st=some (.L [.int n]))(Y:0<=n)(Z:n<2147483647)(h:∀ r F,-1000000000<=r->r<=1000000000->0<=F->F<2147483647->Q (.int r) (upd M st (.L [.int F]))):d8 g D true "_law_number" [.ref st] M Q X:=by
 have:=xM (M:=M) (Q:=Q) (X:=X) N hD (st:=st) Y Z h;k_extra"bc"
open Internal renaming I2->y16,wi->y17
theorem cC1:True:=by
 k_with"c"=>first | (refine y16 p.N (by k_extra"d") (by k_extra"h") (by assumption) (by assumption) (by k_extra"n") (by k_extra"n") ?_;intro _ _ _ _ _ _) | (refine y17 p.N (by k_extra"d") (by k_extra"h") (by assumption) (by assumption) ?_;intro _ _ _ _ _ _)
 trivial
theorem Br{K:KT}(p:Pk pq tab g 2 Q X cx){s A:Int}(q:L≠st)(x:M st=some (.L [.int n]))(I:M L=some (.L R))(Ma:R.length<=100)(Y:0<=n)(Z:n<2147483647)
  (hq:∀ c s' F M',-1000000000<=c->c<=1000000000->s+1<=s'->s'<=s+20000->0<=F->F<2147483647->M' st=some (.L [.int F])->M' L=some (.L (R++[.tup [.int s,.int c,.int A]]))->m8 st L M M'->
   K cx w [some (.ref st),some many,some (.int s'),some (.ref L),some (.int k),some (.int A)] M') :
  zO.w true K cx w [some (.ref st),some many,some (.int s),some (.ref L),some (.int k),some (.int A)] M:=by
 have u:=Ne.symm q;k_extra"w"
 ·k_extra"I"
 ·k_extra"I"
end
section
variable{g:G}{Q:V->Hp->Prop}
theorem Tj(Z:m8 st L M M')(S:M' st=some o)(c:M L=none):Sub (upd M st o) M':=λa U e=>by
 by_cases q:a=st
 ·subst q;rw[d6] at e;rw[S];exact e
 ·rw[e9 _ _ q] at e
  exact Z a U q (λq=>by rw[q,c] at e;cases e) e
open Internal renaming I2->y18,wi->y19
theorem cB1:True:=by
 k_with"c"=>first | (refine y18 p.N (by k_extra"d") (by k_extra"h") (by assumption) (by assumption) (by k_extra"n") (by k_extra"n") ?_;intro _ _ _ _ _ _) | (refine y19 p.N (by k_extra"d") (by k_extra"h") (by assumption) (by assumption) ?_;intro _ _ _ _ _ _)
 trivial
def By(st L:Addr)(M:Hp)(s:Int)(many:Nat)(i:Nat)(S:Lo)(M':Hp):Prop:=
 ∀ u:Prop,(∀ (R:List (Int×Int×Int)) (c F:Int) (x A:Option V) (hl:R.length=i) (Y:∀ p∈R,RowB p) (Ma:R.Pairwise (λp q=>p.1<q.1)) (w:∀ p∈R,p.1<c) (P:s<=c) (C:c<=s+20000*i) (Ja:0<=F) (y:F<2147483647)
  (E:M' st=some (.L [.int F])) (I:M' L=some (.L (R.map u8))) (H:m8 st L M M') (e:S=[some (.ref st),some (.int many),some (.int c),some (.ref L),x,A]),u)->u
set_option tactic.hygienic true in
theorem bz9(p:Pk pq tab g 2 Q X cx){n s:Int}{many:Nat}(Ja:M st=some (.L [.int n]))(h0:0<=n)(h1:n<2147483647)(P:1<=many)(u:many<=20)(T:0-1000000000<=s)(hs1:s+20000*many<=1000000000)
  (h:∀ t F,u9 t=true->(∀ M,Cld M t)->0<=F->F<2147483647->Q t (upd M st (.L [.int F]))) :
  xD.w true l7 cx [] [some (.ref st),some (.int many),some (.int s),none,none,none] M:=by
 k_extra"w";rename_i L I;have hne:L≠st:=λe=>by rw[e,Ja] at I;cases I
 refine x2 p (By st L M s many) (λ_ U=>U [] s n none none rfl (λp Ma=>(by cases Ma)) .nil (λp Ma=>(by cases Ma)) (jq _) (by exact Int.le.intro (20000*0) rfl) h0 h1 (g9 Ja I) (d6 _ _ _) m8.r rfl) (λcx p hB i hi hJ=>?_) ?_
 ·k_extra"a5"
  have hRl:(R.map u8).length<=100:=by rw[bQ];lia
  have fin:∀ A num s2 n2 M3 K O,0<=A->A<=100->-1000000000<=num->num<=1000000000->C+1<=s2->s2<=C+20000->0<=n2->n2<2147483647->M3 st=some (.L [.int n2])->M3 L=some (.L (R.map u8++[.tup [.int C,.int num,.int A]]))->m8 st L M M3->
    By st L M s many (i+1) [some (.ref st),some (.int many),some (.int s2),some (.ref L),K,O] M3:=λA num s2 n2 M3 K O Z p1 q0 q1 q2 q3 q4 q5 q6 q7 q8=>by
   refine(λ_ U=>U (R++[(C,num,A)]) s2 n2 _ _ (by rw[cC,hl];rfl) (λp hp'=>?_) (nJ.mpr ⟨Ma,by simp,λp hp' q hq=>by rw[bV.mp hq];exact w p hp'⟩) (λp hp'=>?_) (by lia) (by lia) q4 q5 q6 (by rw[q7,cG];rfl) q8 rfl)
   ·rcases cz.mp hp' with q | q
    ·exact Y p q
    ·rw[bV.mp q];exact⟨by show _<=C;exact cQ T hs,by show C<=_;lia,by show _<=num;exact q0,by show num<=_;exact q1,Z,p1⟩
   ·rcases cz.mp hp' with q | q
    ·have:=w p q;exact fu this q2
    ·rw[bV.mp q];show C<s2;exact q2
  k_extra"w"
  ·k_extra"A"
  ·k_extra"A"
  ·rename_i A _ Z p1 _ _ _ _ _ _ _ _ _
   exact Stop.mk (Br p hne (d6 _ _ _) (by k_extra"h") hRl (by assumption) (by assumption) λnum s2 n2 M3 q0 q1 q2 q3 q4 q5 q6 q7 q8=>(hJ (fin _ num s2 n2 M3 _ _ Z (by exact eZ p1) q0 q1 q2 q3 q4 q5 q6 q7 (((hSt.trans m8.l).trans m8.l).trans q8))))
 ·k_extra"a5"
  have hl:R.length=many:=by rw[hl];exact za
  have hRl:(R.map u8).length<=10000:=by rw[bQ];exact bN (cu hl) (bN u (by decide))
  k_extra"w";refine p.r (Tj hSt y I) (h _ F (Ua (by exact le_of_le_of_eq P (id (lE hl))) (by exact le_of_eq_of_le hl u) Y Ma) (λM=>.tup (by rw[bQ];exact bN (cu hl) (bN u (by decide))) λx hx=>?_) hn H)
  refine a7 (cD.mp hx) λp _ qa=>?_;subst qa
  exact Lf p
end
section
variable{g:G}{Q:V->Hp->Prop}
open Internal renaming O5->y20
theorem cB0:True:=by
 k_with"c"=>(refine y20 p.N (by k_extra"d") (by k_extra"n") (by k_extra"n") (by k_extra"n") (by k_extra"n") ?_;intro _ _ _ _ _ _)
 trivial
theorem cg0(N:Nm g)(hD:3<=D){n:Int}(Y:0<=n)(Z:n<2147483647)(h:∀ t F,u9 t=true->(∀ M,Cld M t)->0<=F->F<2147483647->Q t (upd M st (.L [.int F]))) :
  d8 g D true "_law_table" [.ref st] (upd M st (.L [.int n])) Q X:=by
 refine bd N ca1 (by k_extra"b") hD λcx p=>?_
 have P:∀ (n s m:Int),0<=n->n<2147483647->1<=m->m<=20->0-1000000000<=s->s+20000*m<=1000000000->xD.w true l7 cx [] [some (.ref st),some (.int m),some (.int s),none,none,none] (upd M st (.L [.int n])):=λn s m w T q u y A=>by
  obtain⟨m,rfl⟩:=dI (show 0<=m by lia)
  refine bz9 p (d6 _ _ _) w T (by exact uo q) (by exact Bo u) y A λt F C I E c=>?_
  rw[O1];exact h t F C I E c
 have x:∀ (n m:Int),0<=n->n<2147483647->1<=m->m<=20->GZ.w true l7 cx [] [some (.ref st),some (.int m),none,none,none,none] (upd M st (.L [.int n])):=λn m w T q u=>by
  k_extra"w";all_goals exact Stop.mk (P _ _ _ (by assumption) (by assumption) q u (by lia) (by lia))
 k_extra"w"
 ·exact Stop.mk (x _ _ (by assumption) (by assumption) (by lia) (by lia))
 ·exact Stop.mk (x _ _ (by assumption) (by assumption) (by exact Gk (by assumption)) (by lia))
end
theorem B3(Z:siz w=some ((args.length:Int)+1))(S:fit z w args=true)(c:∀ x∈g8 w args,ok z n x=true):ok z (n+1) (.tup (.str w::args))=true:=by
 show((siz w==some ((args.length:Int)+1))&&fit z w args&&(g8 w args).all (ok z n))=true;rw[Z,S,cX.mpr c,beq_self_eq_true];rfl
theorem GR.mono(P:∀ i,u i->q i)(S:∀ x,c x->w x)(h:GR z u c d r):GR z q w d r:=by
 induction h with
 | num a b=>exact .num a b
 | line a=>exact .line (P _ a)
 | au a b=>exact .au a b
 | aD a=>exact .aD (S _ a)
 | part _ a b A=>exact .part A a b
 | table _ a b A=>exact .table A a b
 | aP a _ _ Y Ma=>exact .aP a Y Ma
 | aQ a _ _ Y Ma=>exact .aQ a Y Ma
 | aN _ _ _ Y Ma y=>exact .aN Y Ma y
 | aM _ _ _ Y Ma y=>exact .aM Y Ma y
 | bu a b _ _ Y Ma=>exact .bu a b Y Ma
 | aZ a b _ _ Y Ma=>exact .aZ a b Y Ma
theorem U2{l:List V}{P:V->Prop}(e:l=[a])(h:P a)(U:x∈l):P x:=by subst e;rw[bV.mp U];exact h
theorem G3{b:V}{l:List V}{P:V->Prop}(e:l=[a,b])(Ma:P a)(Y:P b)(hx:x∈l):P x:=by
 subst e;k_extra"aC"
 ·exact Ma
 ·exact U2 rfl Y hx
theorem rF{c:V}{l:List V}{P:V->Prop}(e:l=[a,b,c])(Ma:P a)(Y:P b)(O:P c)(hx:x∈l):P x:=by
 subst e;k_extra"aC"
 ·exact Ma
 ·exact G3 rfl Y O hx
theorem Fp(a:w∈[("add" : Str),"take","least","most"]):fit z w l=true:=by
 k_extra"a4"
 k_extra"b4"
 ·exact yo _ _
 ·exact yc _ _
 ·exact yD _ _
 ·exact zE _ _
theorem GR.ok{z:Lim}(y:∀ i,q i->0<=i/\i<z.L)(S:∀ x,c x->m9 x=true)(h:GR z q c d r):∀ {n:Nat},d<=n->Internal.ok z n r=true:=by
 induction h with
 | num a b=>intro n hn;refine a7 (r5 hn) λn qa hk=>?_;subst qa;exact B3 bs8 (by rw[rB];exact r9 a b) λx U=>by rw[vL] at U;cases U
 | line a=>intro n hn;refine a7 (r5 hn) λn qa hk=>?_;subst qa;exact B3 ci0 (by rw[X9];exact r9 (y _ a).1 (eZ (y _ a).2)) λx U=>by rw[vR] at U;cases U
 | au a b=>intro n hn;refine a7 (r5 hn) λn qa hk=>?_;subst qa;exact B3 J2 (by rw[qu];exact r9 a (eZ b)) λx U=>by rw[vQ] at U;cases U
 | aD a=>intro n hn;refine a7 (r5 hn) λn qa hk=>?_;subst qa;exact B3 J0 (by rw[rZ];exact S _ a) λx U=>by rw[vN] at U;cases U
 | part _ a b w=>intro n hn;refine a7 (r5 hn) λn qa hk=>?_;subst qa;exact B3 Hs (by rw[qg];exact r9 a b) λx U=>U2 (P:=λx=>Internal.ok z n x=true) (L7 _) (w hk) U
 | table _ a b w=>intro n hn;refine a7 (r5 hn) λn qa hk=>?_;subst qa;exact B3 Yu (by rw[qQ];exact r9 a (eZ b)) λx U=>U2 (P:=λx=>Internal.ok z n x=true) (K4 _) (w hk) U
 | aP a _ _ Y Ma=>intro n hn;refine a7 (r5 hn) λn qa hk=>?_;subst qa;exact B3 (Er a) (Fp a) λx U=>G3 (P:=λx=>Internal.ok z n x=true) (Q3 a) (Y hk) (Ma (bN (eQ _ _) hk)) U
 | aQ a _ _ Y Ma=>intro n hn;refine a7 (r5 hn) λn qa hk=>?_;subst qa;exact B3 (Er a) (Fp a) λx U=>G3 (P:=λx=>Internal.ok z n x=true) (Q3 a) (Y (bN (eQ _ _) hk)) (Ma hk) U
 | aN _ _ _ Y Ma u=>intro n hn;refine a7 (r5 hn) λn qa hk=>?_;subst qa;exact B3 De (ux _ _) λx U=>rF (P:=λx=>Internal.ok z n x=true) (C1 _) (Y hk) (Ma (bN (eQ _ _) hk)) (u (bN (eQ _ _) hk)) U
 | aM _ _ _ Y Ma u=>intro n hn;refine a7 (r5 hn) λn qa hk=>?_;subst qa;exact B3 De (ux _ _) λx U=>rF (P:=λx=>Internal.ok z n x=true) (C1 _) (Y (bN (eQ _ _) hk)) (Ma hk) (u (bN (eQ _ _) hk)) U
 | bu a b _ _ Y Ma=>intro n hn;refine a7 (r5 hn) λn qa hk=>?_;subst qa;exact B3 CX (by rw[X0];exact r9 a (eZ b)) λx U=>G3 (P:=λx=>Internal.ok z n x=true) (B9 _) (Y hk) (Ma (bN (eQ _ _) hk)) U
 | aZ a b _ _ Y Ma=>intro n hn;refine a7 (r5 hn) λn qa hk=>?_;subst qa;exact B3 CX (by rw[X0];exact r9 a (eZ b)) λx U=>G3 (P:=λx=>Internal.ok z n x=true) (B9 _) (Y (bN (eQ _ _) hk)) (Ma hk) U
set_option tactic.hygienic true in
theorem A2(h:y∈f9 n (.tup (.str w::args)) u):(w=u/\y=arg args 0)∨∃ m,n=m+1/\∃ x∈g8 w args,y∈f9 m x u:=by
 cases n with
 | zero=>cases h
 | succ n=>
  simp only[H9,cz,jC,cD] at h
  rcases h with h | ⟨_,⟨r,I,rfl⟩,h⟩
  ·split at h
   ·rename_i e;exact .inl ⟨beq_iff_eq.mp e,bV.mp h⟩
   ·cases h
  ·exact .inr ⟨n,rfl,r,I,h⟩
theorem GR.aV{c:Str->Prop}{d:Nat}{r:V}(h:GR z u c d r):∀ {n:Nat},∀ y∈f9 n r (bM "line"),∃ i,y=.int i/\u i:=by
 have two:∀ {w:Str},w∈[("add" : Str),"take","least","most"]->w≠bM "line":=fun{w} a e=>by subst e;revert a;decide +kernel
 induction h with
 | num a b=>intro n y hy;rcases A2 hy with ⟨e,-⟩ | ⟨m,-,x,hx,-⟩;exact absurd e (by k_extra"#");rw[vL] at hx;cases hx
 | line a=>intro n y hy;rcases A2 hy with ⟨-,e⟩ | ⟨m,-,x,hx,-⟩;exact⟨_,e,a⟩;rw[vR] at hx;cases hx
 | au a b=>intro n y hy;rcases A2 hy with ⟨e,-⟩ | ⟨m,-,x,hx,-⟩;exact absurd e (by k_extra"#");rw[vQ] at hx;cases hx
 | aD a=>intro n y hy;rcases A2 hy with ⟨e,-⟩ | ⟨m,-,x,hx,-⟩;exact absurd e (by k_extra"#");rw[vN] at hx;cases hx
 | part _ a b A=>intro n y hy;rcases A2 hy with ⟨e,-⟩ | ⟨m,-,x,hx,q⟩;exact absurd e (by k_extra"#");exact U2 (P:=λx=>y∈f9 m x _->_) (L7 _) (A y) hx q
 | table _ a b A=>intro n y hy;rcases A2 hy with ⟨e,-⟩ | ⟨m,-,x,hx,q⟩;exact absurd e (by k_extra"#");exact U2 (P:=λx=>y∈f9 m x _->_) (K4 _) (A y) hx q
 | aP a _ _ i1 i2=>intro n y hy;rcases A2 hy with ⟨e,-⟩ | ⟨m,-,x,hx,q⟩;exact absurd e (two a);exact G3 (P:=λx=>y∈f9 m x _->_) (Q3 a) (i1 y) (i2 y) hx q
 | aQ a _ _ i1 i2=>intro n y hy;rcases A2 hy with ⟨e,-⟩ | ⟨m,-,x,hx,q⟩;exact absurd e (two a);exact G3 (P:=λx=>y∈f9 m x _->_) (Q3 a) (i1 y) (i2 y) hx q
 | aN _ _ _ i1 i2 i3=>intro n y hy;rcases A2 hy with ⟨e,-⟩ | ⟨m,-,x,hx,q⟩;exact absurd e (by k_extra"#");exact rF (P:=λx=>y∈f9 m x _->_) (C1 _) (i1 y) (i2 y) (i3 y) hx q
 | aM _ _ _ i1 i2 i3=>intro n y hy;rcases A2 hy with ⟨e,-⟩ | ⟨m,-,x,hx,q⟩;exact absurd e (by k_extra"#");exact rF (P:=λx=>y∈f9 m x _->_) (C1 _) (i1 y) (i2 y) (i3 y) hx q
 | bu a b _ _ i1 i2=>intro n y hy;rcases A2 hy with ⟨e,-⟩ | ⟨m,-,x,hx,q⟩;exact absurd e (by k_extra"#");exact G3 (P:=λx=>y∈f9 m x _->_) (B9 _) (i1 y) (i2 y) hx q
 | aZ a b _ _ i1 i2=>intro n y hy;rcases A2 hy with ⟨e,-⟩ | ⟨m,-,x,hx,q⟩;exact absurd e (by k_extra"#");exact G3 (P:=λx=>y∈f9 m x _->_) (B9 _) (i1 y) (i2 y) hx q
structure FG(rh tc:List V)(C ow:Int)(rk:Int->Nat):Prop where
 gr:∀ (i:Nat) r,rh[i]?=some r->GR ⟨rh.length,tc.length,C⟩ (λj=>(0<=j/\j<rh.length)/\rk j<rk i) (λx=>m9 x=true) 8 r
 l1:1<=rh.length
 l40:rh.length<=40
 t5:tc.length<=5
 tab:∀ t∈tc,u9 t=true/\∀ M,Cld M t
 c0:0<=C
 c8:C<=8
 o0:0<=ow
 o1:ow<rh.length
theorem FG.bc(h:FG rh tc C w rk):FormOK rh tc C w:=by
 refine⟨λr I=>?_,h.l1,h.l40,h.t5,h.tab,h.c0,h.c8,h.o0,h.o1,λnm A=>⟨rk,?_⟩⟩
 ·refine d4 (iK.mp I) λi y=>?_
  have E:=h.gr i r y;have K:=E.ok (λj q=>q.1) (λx U=>U) (cO 8)
  exact⟨K,λu=>E.few.lt u K,λM=>E.cld λx U=>U⟩
 ·have c:∀ (i:Nat),∀ j∈nm.getD i [],(0<=j/\j<(rh.length:Int))/\rk j<rk i:=λi j q=>by
   by_cases y:i<rh.length
   ·have F:=A.iff i _ _ (D5 (x:=[]) (A.len▸y)) (D5 (x:=.none) y)
    refine a7 ((h.gr i _ (D5 (x:=.none) y)).aV _ ((F _).mp (cD.mpr ⟨j,q,rfl⟩))) λk e K=>?_
    rw[V.int.inj e];exact K
   ·rw[cI,fH (by rw[A.len];exact dO y)] at q;cases q
  exact⟨λi j q=>by rw[A.len];exact(c i j q).1,λi j q=>(c i j q).2⟩
theorem j9(h:a≠b):a∉[b]:=λq=>h (bV.mp q)
def e8(A:List Addr)(M M':Hp):Prop:=∀ c o,c∉A->M c=some o->M' c=some o
theorem e8.refl{A:List Addr}:e8 A M M:=λN N N e=>e
theorem e8.trans{A:List Addr}(h:e8 A M q)(k:e8 A q O):e8 A M O:=λc o Z e=>k c o Z (h c o Z e)
theorem e8.upd{A:List Addr}(h:a∈A):e8 A M (Internal.upd M a x):=λc o Z e=>by rw[e9 M x (fun(q:c=a)=>Z (by rw[q];exact h))];exact e
theorem e8.new{A:List Addr}(h:M a=none):e8 A M (Internal.upd M a x):=λc o Z e=>Sub.upd h _ _ e
theorem e8.sub{A:List Addr}(h:e8 A M u)(R:∀ a∈A,M a=none):Sub M u:=λc o e=>h c o (λq=>by rw[R c q] at e;cases e) e
section
variable{g:G}{Q:V->Hp->Prop}
theorem bZ2(N:Nm g)(hD:12<=D){seen:List Int}(S:Src M st q u z seen ws)(m:Nat)(hst:M st=some (.L [.int n]))(w:e=((m+1:Nat):Int))(c:m<8)(Y:0<=n)(Z:n<2147483647)
  (h:∀ r F,GR z (·∈seen) (·∈ws) (m+1) r->0<=F->F<2147483647->Q r (upd M st (.L [.int F]))) :
  d8 g D true "_law_rule" [.ref st,.int e,.ref q,.tup [.int z.L,.int z.T,.int z.C],.ref u] M Q X:=by
 have:=Wn (X:=X) S m (Q:=Q) N (bN (fQ (eH c) 5) hD) w c Y Z h;k_extra"bc"
theorem Yz(N:Nm g)(hD:2<=D)(hst:M st=some (.L [.int n]))(Y:0<=n)(Z:n<2147483647)(hz:many<=100)(h:∀ b O F,b≠st->M b=none->Prm many O->0<=F->F<2147483647->Q (.ref b) (upd (upd M st (.L [.int F])) b (.L (O.map .int)))) :
  d8 g D true "_law_order" [.ref st,.int many] M Q X:=by
 have:=bR6 (X:=X) N hD (st:=st) Y Z hz h;k_extra"bc"
theorem bq7(N:Nm g)(hD:3<=D)(hst:M st=some (.L [.int n]))(Y:0<=n)(Z:n<2147483647)(h:∀ t F,u9 t=true->(∀ M,Cld M t)->0<=F->F<2147483647->Q t (upd M st (.L [.int F]))) :
  d8 g D true "_law_table" [.ref st] M Q X:=by
 have:=cg0 (X:=X) N hD (st:=st) Y Z h;k_extra"bc"
def FmJ(L st A u P:Addr)(q:Int)(z:Lim)(m:Nat)(ws:List Str)(O:List Int)(M:Hp)(rest:List V)(S:Lo)(M':Hp):Prop:=
 ∀ y:Prop,(∀ (done c:List Int) (n:Int) (R:List V) (w K:Option V) (E:O=done++c) (C:rest=c.map .int) (Ja:M' st=some (.L [.int n])) (Y:0<=n) (Z:n<2147483647) (H:M' A=some (.L R)) (Ma:R.length=m) (I:M' u=some (.L (done.map .int)))
  (T:∀ (i:Nat) r,(i:Int)∈done->R[i]?=some r->GR z (λj=>(0<=j/\j<m)/\O.idxOf j<O.idxOf (i:Int)) (λx=>m9 x=true) 8 r) (F:e8 [st,A,u] M M')
  (e:S=[some (.ref L),some (.int q),some (.ref st),some (.tup [.int z.L,.int z.T,.int z.C]),some (.ref P),some (.ref A),some (.ref u),w,K,none]),y)->y
set_option tactic.hygienic true in
theorem Ba{K:KT}(p:Pk pq tab g 12 Q X cx){A E:Addr}{z:Lim}{m:Nat}{seen:List Int}{R:List V}(H:M st=some (.L [.int n]))(h0:0<=n)(h1:n<2147483647)(S:M A=some (.L R))(U:M E=some (.L (seen.map .int)))(hwl:M P=some (.L (ws.map .str)))
  (n1:A≠st) (n2:E≠st) (n3:A≠E) (n4:P≠st) (y:1<=u) (w:u<=8) (hzL:1<=z.L) (Ma:z.L<=100) (hzT:0<=z.T) (O:z.T<=100) (hzC:0<=z.C) (Ja:z.C<=100) (hs:seen.length<=100) (hw1:1<=ws.length) (hw2:ws.length<=100) (hx:x<R.length) (hR:R.length<=100)
  (hq:∀ r F M',GR z (·∈seen) (·∈ws) 8 r->0<=F->F<2147483647->M' st=some (.L [.int F])->M' A=some (.L (R.set x r))->M' E=some (.L ((seen++[(x:Int)]).map .int))->e8 [st,A,E] M M'->
   K cx sk [some (.ref sa),some (.int C),some (.ref st),some (.tup [.int z.L,.int z.T,.int z.C]),some (.ref P),some (.ref A),some (.ref E),some (.int x),some (.int u),o9] M') :
  Bq.w true K cx sk [some (.ref sa),some (.int C),some (.ref st),some (.tup [.int z.L,.int z.T,.int z.C]),some (.ref P),some (.ref A),some (.ref E),some (.int x),some (.int u),o9] M:=by
 have n1':=Ne.symm n1;have n2':=Ne.symm n2;have n3':=Ne.symm n3;have Z:(seen.map V.int).length<=100:=by rw[bQ];exact hs
 have I:(ws.map V.str).length=ws.length:=bQ _;k_extra"w";rename_i q c;have L:q≠st:=λe=>by rw[e,H] at c;cases c
 have hqla:A≠q:=j8 S c;have hqsl:E≠q:=j8 U c;obtain⟨m',Y⟩:∃ m':Nat,u=((m'+1:Nat):Int):=⟨(u-1).toNat,by rw[Int.natCast_add,dN (jO (by exact y))];exact(Int.sub_add_cancel u 1).symm⟩
 refine bZ2 p.N (p.dd (by decide)) (seen:=seen) (ws:=ws) ⟨d6 _ _ _,L,g9 hwl c,n4,Z,by rw[I];exact hw2,by rw[I];exact hw1,hzL,Ma,hzT,O,hzC,Ja⟩ m' (g9 H c) Y (by exact YZ w Y) h0 h1 λr F hr hn T=>?_
 k_extra"w";refine hq r F _ (hr.le (by exact Ku w Y)) hn T ?_ ?_ ?_ ?_
 ·rw[e9 _ _ n2',e9 _ _ n1',d6]
 ·rw[e9 _ _ n3,d6];rfl
 ·rw[d6,cG];rfl
 ·exact(((e8.new c).trans (e8.upd (by k_extra"m"))).trans (e8.upd (by k_extra"m"))).trans (e8.upd (by k_extra"m"))
theorem JM{O:List Int}(e:O=done++x::c)(w:O.Nodup)(u:j∈done):O.idxOf j<O.idxOf x:=by
 subst e;have U:x∉done:=λq=>(eN.mp w).2.2 x q x (.head _) rfl
 rw[List.idxOf_append,if_pos u,List.idxOf_append,if_neg U,List.idxOf_cons_self,jP];exact List.idxOf_lt_length_iff.mpr u
open Internal renaming GQ->y21,DW->y22,I2->y23
theorem cB3:True:=by
 k_with"c"=>first | (refine y21 p.N (by k_extra"d") (by with_reducible assumption) (by with_reducible assumption) (by k_extra"n") (by k_extra"n") ?_;intro _) | (refine y22 p.N (by k_extra"d") (by k_extra"n") ?_;intro _ _ _) | (refine y23 p.N (by k_extra"d") (by k_extra"h") (by with_reducible assumption) (by with_reducible assumption) (by k_extra"n") (by k_extra"n") ?_;intro _ _ _ _ _ _)
 trivial
set_option tactic.hygienic true in
theorem cm8(N:Nm g)(hD:13<=D)(hs:Scr g sa ns)(hl:ns.length<=100)(hm:7<=u)(Y:u<=40)
  (h:∀ M' p A ta H rh tc ws C P rk,M' p=some (.L [.ref A,.ref ta,.int C,.int P,.ref H])->M' A=some (.L rh)->M' ta=some (.L tc)->M' H=some (.L (List.map V.str ws))->A≠p->A≠ta->A≠H->Sub M M'->FG rh tc C P rk->(rh.length:Int)<=u->
   5<=ws.length->ws.length<=8->(∀ x∈ws,m9 x=true)->Q (.ref p) M'):d8 g D true "_law_form" [.ref sa,.int u] M Q X:=by
 refine bd N Zq (by k_extra"b") hD λcx p=>?_
 have hs:=p.e▸hs;k_extra"w";rename_i x0 hx0 hx1 w hst _ _ _ _;refine bj6 p.N (p.dd (by decide)) hm Y λm t c hm1 Ja ht1 ht2 hc1 hc2=>?_
 obtain⟨m,rfl⟩:=dI (show 0<=m by lia)
 refine d4 (dI ht1) λt qa=>?_;subst qa
 k_extra"w";refine bd7 p.N (p.dd (by decide)) hx0 hx1 λH ws n T hwl h5 h8 hw hn hn'=>?_
 k_extra"w";rename_i tmp htmp A hla U hsl;have er:(bY (m:Int).toNat [V.tup [.str (bM "number"),.int 0]]).flatten=bY m (V.tup [.str (bM "number"),.int 0]):=List.flatten_replicate_singleton;rw[er] at hsl ⊢;refine d5 (j3 hla) λa1 a2=>d5 (j3 a2) λa3 a4=>?_
 refine d5 (j3 a4) λa5 a6=>d5 (j3 hsl) λb1 b2=>?_
 refine d5 (j3 b2) λb3 b4=>d5 (j3 b4) λb5 b6=>?_
 refine d5 (j3 b6) λb7 b8=>d5 (j3 htmp) λc1 c2=>?_
 refine d5 (j3 c2) λc3 c4=>?_
 obtain⟨I,K⟩:∃ I,I=upd (upd (upd (upd (upd M w (.L [.int n])) H (.L (ws.map .str))) tmp (.L [V.tup [.str (bM "number"),.int 0]])) A (.L (bY m (V.tup [.str (bM "number"),.int 0])))) U (.L []):=⟨_,rfl⟩;have t1:I w=some (.L [.int n]):=by rw[K,e9 _ _ (Ne.symm b7),e9 _ _ (Ne.symm a5),e9 _ _ (Ne.symm c3),e9 _ _ (Ne.symm T),d6]
 have t2:I H=some (.L (ws.map .str)):=by rw[K,e9 _ _ (Ne.symm b5),e9 _ _ (Ne.symm a3),e9 _ _ (Ne.symm c1),d6]
 have t3:I A=some (.L (bY m (V.tup [.str (bM "number"),.int 0]))):=by rw[K,e9 _ _ (Ne.symm b1),d6]
 have t4:I U=some (.L []):=by rw[K,d6]
 have t5:Sub M I:=by
  rw[K];exact((((Sub.upd hst).trans (Sub.upd (by rw[e9 _ _ T];exact hwl))).trans (Sub.upd (by rw[e9 _ _ c1,e9 _ _ c3];exact c4))).trans (Sub.upd (by rw[e9 _ _ a1,e9 _ _ a3,e9 _ _ a5];exact a6))).trans (Sub.upd (by rw[e9 _ _ b1,e9 _ _ b3,e9 _ _ b5,e9 _ _ b7];exact b8))
 rw[<- K];clear K hsl hla htmp;refine Yz (many:=m) p.N (p.dd (by decide)) t1 hn hn' (cZ.mp (cQ Ja (cQ Y (by decide)))) λb O n2 hbst hb Z hn2 hn2'=>?_
 have hbwl:=j8 t2 hb;have hbla:=j8 t3 hb;have hbsl:=j8 t4 hb;have hwlA:H∉[w,A,U]:=by simp[T,Ne.symm a3,Ne.symm b5]
 have hOl:=Z.len;refine LoopR.tmp (by rw[e9 _ _ hbst];exact hb) (Loop.g p (FmJ sa w A U H u ⟨m,t,c⟩ m ws O I) (λ_ k_=>k_ [] O n2 _ none none rfl rfl (d6 _ _ _) hn2 hn2' (by rw[e9 _ _ a5];exact t3) dG (by rw[e9 _ _ b7];exact t4) (λi r hi=>(by cases hi)) (e8.upd (by k_extra"m")) rfl) (λcx p hB v rest hJ=>?_) ?_)
 ·k_extra"at"
  refine⟨trivial,?_⟩;cases todo with
  | nil=>cases e2
  | cons x todo=>
   k_extra"aE";rw[qa] at hJ e2
   subst e3;obtain⟨x0',x1'⟩:=Z.rng x (by rw[e1];simp)
   refine d4 (dI x0') λx qa=>?_;subst qa
   have hdl:done.length<=100:=by have:=congrArg List.length e1;rw[cC,Z.len] at this;lia
   have hnx:(x:Int)∉done:=λq=>(eN.mp (e1▸Z.nd)).2.2 _ q _ (.head _) rfl
   have fin:∀ r F L o7 o8,e8 [w,A,U] M' L->GR ⟨m,t,c⟩ (·∈done) (·∈ws) 8 r->0<=F->F<2147483647->L w=some (.L [.int F])->L A=some (.L (R.set x r))->L U=some (.L ((done++[(x:Int)]).map .int))->
     FmJ sa w A U H u ⟨m,t,c⟩ m ws O I (todo.map .int) [some (.ref sa),some (.int u),some (.ref w),some (.tup [.int m,.int t,.int c]),some (.ref H),some (.ref A),some (.ref U),o7,o8,none] L:=λr F L o7 o8 q1 q2 q3 q4 q5 q6 q7=>by
    refine(λ_ k_=>k_ (done++[(x:Int)]) todo F (R.set x r) o7 o8 (by rw[e1,dB];rfl) rfl q5 q3 q4 q6 (by rw[dZ];exact Ma) q7 (λi r' hi hr'=>?_) (hS.trans q1) rfl)
    by_cases hix:x=i
    ·subst hix
     rw[mG (tQ Ma x1')] at hr';rw[<- d7 hr'];exact q2.mono (λj hj=>⟨Z.rng j (by rw[e1];exact cz.mpr (.inl hj)),JM e1 Z.nd hj⟩) λy hy=>hw y hy
    ·rw[nF hix] at hr'
     rcases cz.mp hi with q | q
     ·exact hG i r' q hr'
     ·exact absurd (Int.ofNat.inj (bV.mp q)).symm hix
   have hwl':=hS H _ hwlA t2;k_extra"w"
   ·exact Stop.mk (Ba (z:=⟨m,t,c⟩) (m:=m) p (d6 _ _ _) (by with_reducible assumption) (by with_reducible assumption) (by k_extra"h") (by k_extra"h") (by k_extra"h") a5 b7 (Ne.symm b1) T (by lia) (by lia) (by show 1<=(m:Int);exact hm1) (by show(m:Int)<=100;exact yd Y Ja) (by show 0<=(t:Int);exact D0) (by show(t:Int)<=100;exact zc ht2) hc1 (by show c<=100;exact Cq hc2) hdl (FQ h5) (uZ h8) (tQ Ma x1') (CW Y Ja Ma)
     λr F L q1 q2 q3 q4 q5 q6 q7=>hJ (fin r F L _ _ ((((e8.upd (by k_extra"m")).trans (e8.upd (by k_extra"m"))).trans (e8.upd (by k_extra"m"))).trans q7) q1 q2 q3 q4 q5 q6))
   ·exact Stop.mk (Ba (z:=⟨m,t,c⟩) (m:=m) p (d6 _ _ _) (by with_reducible assumption) (by with_reducible assumption) (by k_extra"h") (by k_extra"h") (by k_extra"h") a5 b7 (Ne.symm b1) T (Gk (by assumption)) (by lia) (by show 1<=(m:Int);exact hm1) (by show(m:Int)<=100;exact yd Y Ja) (by show 0<=(t:Int);exact D0) (by show(t:Int)<=100;exact zc ht2) hc1 (by show c<=100;exact Cq hc2) hdl (FQ h5) (uZ h8) (tQ Ma x1') (CW Y Ja Ma)
     λr F L q1 q2 q3 q4 q5 q6 q7=>hJ (fin r F L _ _ (((e8.upd (by k_extra"m")).trans (e8.upd (by k_extra"m"))).trans q7) q1 q2 q3 q4 q5 q6))
 ·k_extra"at"
  k_extra"W";k_extra"5"
  rw[dC] at e1;rw[<- e1] at hsl' hG;refine Stop.mk ?_;have hlaA:A∉[w]:=by simp[a5]
  have hwlA':H∉[w]:=by simp[T]
  show yq.w true l7 cx [] [some (.ref sa),some (.int u),some (.ref w),some (.tup [.int m,.int t,.int c]),some (.ref H),some (.ref A),some (.ref U),o7,o8,none] M';k_extra"w";refine Y1 (a:=0) (b:=(t:Int)) p (λi E L=>∃ n,0<=n/\n<2147483647/\L w=some (.L [.int n])/\e8 [w] M' L/\E.length=i/\∀ x∈E,u9 x=true/\∀ M,Cld M x) (cQ ht2 (by decide)) ⟨n,h0,h1,hst',e8.refl,rfl,λx hx=>(by cases hx)⟩ (λcx p i E hi hJ hN=>?_) ?_
  ·rintro L hh;refine Jf hh λn g0 g1 g2 g3 g4 g5=>?_
   k_extra"w";refine bq7 p.N (p.dd (by decide)) g2 g0 g1 λt' F q1 q2 q3 q4=>(hJ ⟨F,q3,q4,d6 _ _ _,g3.trans (e8.upd (by k_extra"m")),by rw[cC,g4];rfl,λx hx=>?_⟩)
   k_extra"aD"
   ·exact g5 x q
   ·rw[bV.mp q];exact⟨q1,q2⟩
  ·rintro E L ⟨n,g0,g1,g2,g3,g4,g5⟩ ta hta
   have g4:E.length=t:=by rw[g4];exact za
   have hla2:=g3 A _ hlaA hla';have hwl2:=g3 H _ hwlA' (hS H _ hwlA t2);have hlat:=j8 hla2 hta;have hwlt:=j8 hwl2 hta;have hstt:=j8 g2 hta;k_extra"w";rename_i P n3 o0 o1 _ _ pa hp;have hla3:upd (upd L ta (.L E)) w (.L [.int n3]) A=some (.L R):=by k_extra"h"
   refine p.h (h _ pa A ta H R E ws c P (λj=>O.idxOf j) (d6 _ _ _) (g9 (by k_extra"h") hp) (g9 (by k_extra"h") hp) (g9 (by k_extra"h") hp) (j8 hla3 hp) hlat (Ne.symm (λe=>a3 e.symm)) ?_ ?_ (by rw[Ma];exact Ja) h5 h8 hw)
   ·have k1:e8 [w,A,U] L (upd (upd L ta (.L E)) w (.L [.int n3])):=(e8.new hta).trans (e8.upd (by k_extra"m"))
    have k2:e8 [w,A,U] M' L:=λx o hx e=>g3 x o (λq=>hx (by rw[bV.mp q];simp)) e
    have k3:e8 [w,A,U] M I:=λx o _ e=>t5 x o e
    refine Sub.trans (e8.sub (((k3.trans hS).trans k2).trans k1) λx hx=>?_) (Sub.upd hp)
    k_extra"aq"
    rcases hx with rfl | rfl | rfl
    ·exact hst
    ·exact a6
    ·exact b8
   ·refine⟨λi r hi=>?_,by lia,by exact bN (cu Ma) (cZ.mp (cQ Ja (cQ Y (by decide)))),by exact cu4 ht2 g4,g5,hc1,hc2,o0,by rw[Ma];exact o1⟩
    have hin:=eF λq=>by
     have:=L5 (S:=(i:Int)::O) (n:=m) (gh.mpr ⟨q,Z.nd⟩) λx hx=>by
      k_extra"aC"
      ·exact⟨du i,by exact Ry Ma ((cj.mp hi).1)⟩
      ·exact Z.rng x hx
     rw[dD,Z.len] at this;lia
    have:=hG i r hin hi;rw[Ma,g4];exact this
end
theorem qO(h:u9 v=true):∃ l,v=.tup l/\∀ x∈l,u7 x=true:=by
 cases v with
 | tup l=>
  have h:((decide (1<=l.length)&&decide (l.length<=20))&&(l.all u7&&(cY (l.length-1)).all (E0 l)))=true:=h;exact⟨l,rfl,cX.mp ((eV _ _).mp ((eV _ _).mp h).2).1⟩
 | _=>exact ff h
def AtJ(l:List V)(n:Int)(k:Nat)(M:Hp)(rest:List V)(S:Lo)(M':Hp):Prop:=
 ∀ c:Prop,(∀ (f:Int) (K:Lo) (e:M=M') (I:∀ x∈rest,u7 x=true) (T:rest.foldl (V5 n) f=l.foldl (V5 n) 0) (hl:K.length=k) (C:S=some (.tup l)::some (.int n)::some (.int f)::K),c)->c
theorem Vw(h:l.length=3):∃ a b c,l=[a,b,c]:=by
 cases l with
 | nil=>cases h
 | cons a l=>cases l with
  | nil=>cases h
  | cons b l=>cases l with
   | nil=>cases h
   | cons c l=>cases l with
    | nil=>exact⟨a,b,c,rfl⟩
    | cons _ _=>cases h
theorem bX9(h:l.length=1):∃ a,l=[a]:=mU.mp h
theorem aS0(h:a<=n):V5 n f (.tup [.int a,.int b,.int c])=b+(n-a)*c / 100:=if_pos h
theorem JZ(h:¬ a<=n):V5 n f (.tup [.int a,.int b,.int c])=f:=if_neg h
section
variable{g:G}{Q:V->Hp->Prop}
set_option tactic.hygienic true in
theorem My(N:Nm g)(hD:1<=D)(R:u9 t=true)(h:Q (.int (atN t n)) M):d8 g D true "at_number" [t,.int n] M Q X:=by
 refine bd N Qd (by k_extra"b") hD λcx p=>a7 (qO R) λl Ja hr=>?_
 subst Ja;k_extra"w";refine Loop.g p (AtJ l n 3 M) (λ_ k_=>k_ 0 [none,none,none] rfl hr rfl rfl rfl) (λcx p Z v rest hJ=>?_) ?_
 ·k_extra"R"
  k_extra"W";refine Q7 (Vw hl) λP w o3 Ja=>?_;subst Ja
  k_extra"cm"
  k_extra"b5"
  k_extra"w"
  ·rename_i q
   k_extra"bo"
  ·rename_i q
   k_extra"bp"
 ·k_extra"R"
  k_extra"cu"
theorem xY:pP "add" a b=a+b:=if_pos (by k_extra"#")
theorem Dw:pP "take" a b=a-b:=(if_neg (by k_extra"#")).trans (if_pos (by k_extra"#"))
theorem Hq:pP "least" a b=min a b:=(if_neg (by k_extra"#")).trans ((if_neg (by k_extra"#")).trans (if_pos (by k_extra"#")))
theorem BR:pP "most" a b=max a b:=(if_neg (by k_extra"#")).trans ((if_neg (by k_extra"#")).trans (if_neg (by k_extra"#")))
theorem Uw(N:Nm g)(hD:1<=D)(S:W2 w)(h:Q (.int (pP w a b)) M):d8 g D true "of_two" [.str w,.int a,.int b] M Q X:=by
 refine bd N KY (by k_extra"b") hD λcx p=>?_
 cases S
 ·k_extra"w"
  exact p.h (by rw[xY] at h;exact h)
 ·k_extra"w"
  exact p.h (by rw[Dw] at h;exact h)
 ·k_extra"w"
  exact p.h (by rw[Hq] at h;exact h)
 ·k_extra"w"
  exact p.h (by rw[BR] at h;exact h)
end
structure YrAt(M:Hp)(z:Lim)(y:Yr)(pa ea ta:Addr):Prop where
 hp:M pa=some (.ds (dS y.P))
 he:M ea=some (.L (y.E.map .int))
 ht:M ta=some (.L (y.T.map .bool))
 ez:y.E=[]∨(y.E.length:Int)=z.L
 e1:y.E.length<=100
 tz:(y.T.length:Int)=z.C
 bz:(y.tc.length:Int)=z.T
 t1:y.T.length<=100
 b1:y.tc.length<=100
 tab:∀ t∈y.tc,u9 t=true
theorem YrAt.sub{U:Addr}(h:YrAt M z y q c U)(k:Sub M M'):YrAt M' z y q c U:=
 ⟨k _ _ h.hp,k _ _ h.he,k _ _ h.ht,h.ez,h.e1,h.tz,h.bz,h.t1,h.b1,h.tab⟩
theorem GC{T:List Bool}{x:V}(h:(T.map V.bool)[k]?=some x):x=.bool (T.getD k false):=by
 k_extra"cn"
 rw[cI,hb];rfl
theorem cx1{T:List Int}{x:V}(h:(T.map V.int)[k]?=some x):x=.int (T.getD k 0):=by
 k_extra"cn"
 rw[cI,hb];rfl
theorem ue{T:List V}(h:T[k]?=some x):x=T.getD k .none:=by
 rw[cI,h];rfl
section
variable{g:G}{Q:V->Hp->Prop}
def Ay(f:Int->Int)(L:List (Int×V))(n:Nat)(v:V):Prop:=Nms (λi=>i9 L i=some (.int (f i))) n v
theorem qD(N:Nm g)(hD:1<=D){z:Lim}{y:Yr}{u c U A:Addr}{tc:V}(Y:YrAt M z y u c U)(H:M A=some (.di L))(hk:ok z (n+1) (.tup [.str w,x])=true)(hl:rP w=true)(hL:Ay f L (n+1) (.tup [.str w,x]))(h:Q (.int (wv y f (n+1) (.tup [.str w,x]))) M) :
  d8 g D true "leaf" [.tup [.str w,x],.tup [.ref u,.ref c,.ref U,tc,.ref A]] M Q X:=by
 refine bd N RC (by k_extra"b") hD λcx p=>?_
 obtain⟨Ma,C,R,O,E,-⟩:=Y;have el:(y.E.map V.int).length=y.E.length:=bQ _;cases pR hk with
 | num i=>
  k_extra"w";exact p.h (by rw[S7] at h;exact h)
 | aD x=>
  k_extra"w";refine p.h ?_;rw[Dk];rw[S5] at h;exact h
 | line i q Z=>
  k_extra"w";exact DAt.mk _ hL.line (p.h (by rw[P8] at h;exact h))
 | au i q Z=>
  rw[R9] at h;rcases O with O | O
  ·rw[O] at h el C
   k_extra"w";exact p.h h
  ·k_extra"w"
   refine Idx.mk q (by exact Sx el Z O) (by exact fu Z (dz (jM O.symm) (dz (cZ.mpr E) (by decide)))) λx F=>?_
   rw[cx1 F];exact p.h h
end
section
variable{g:G}
set_option tactic.hygienic true in
theorem bk2{y:Yr}{U K:Addr}{f:Int->Int}{L:List (Int×V)}(Y:YrAt M z y Ja H U)(hv:M K=some (.di L)):∀ (n:Nat) {g:G} {D:Nat} {v:V} {Q:V->Hp->Prop} {X:Str->Hp->Prop},Nm g->n+2<=D->ok z n v=true->Ay f L n v->Q (.int (wv y f n v)) M->
  d8 g D true "worth" [v,.tup [.ref Ja,.ref H,.ref U,.tup y.tc,.ref K]] M Q X:=by
 intro n;induction n with
 | zero=>intro g D v Q X N hD hk;exact ff hk
 | succ n c=>
  intro g D v Q X N hD hk hL h;refine bd N Tz (by k_extra"b") hD λcx p=>?_
  cases pR hk with
  | num i=>
   k_extra"w";exact qD p.N (by k_extra"d") Y hv hk (by k_extra"#") hL (p.h h)
  | aD x=>
   k_extra"w";exact qD p.N (by k_extra"d") Y hv hk (by k_extra"#") hL (p.h h)
  | line i A Z=>
   k_extra"w";exact qD p.N (by k_extra"d") Y hv hk (by k_extra"#") hL (p.h h)
  | au i A Z=>
   k_extra"w";exact qD p.N (by k_extra"d") Y hv hk (by k_extra"#") hL (p.h h)
  | part r i I A Z=>
   k_extra"w";refine c p.N (bN (cu (dH n 1).symm) p.d) I hL.part ?_;k_extra"w";exact p.h (by rw[T2] at h;exact h)
  | table i r A Z I=>
   have C:=Y.bz;have E:=Y.b1;k_extra"w";refine Idx.mk A (by exact lt_of_lt_of_eq Z (id (lE C))) (by exact Do Z C E) λt R=>c p.N (bN (cu (dH n 1).symm) p.d) I hL.table ?_
   refine My p.N (by k_extra"d") (Y.tab t (cA R)) ?_
   rw[ue R];exact p.h (by rw[P5] at h;exact h)
  | two w r t S I R=>
   rw[R8 S] at h;cases S;all_goals
    k_extra"w";refine c p.N (bN (cu (dH n 1).symm) p.d) I (hL.two1 (by constructor)) (c p.N (bN (cu (dH n 1).symm) p.d) R (hL.two2 (by constructor)) ?_)
    exact Uw p.N (by k_extra"d") (by constructor) (p.h h)
  | bA r t u I R Ma=>
   rw[N8] at h;k_extra"w";refine c p.N (bN (cu (dH n 1).symm) p.d) I hL.wher1 ?_;k_extra"w"
   ·rename_i q
    rw[if_pos q] at h;exact c p.N (bN (cu (dH n 1).symm) p.d) R hL.wher2 (p.h h)
   ·rename_i q
    rw[if_neg q] at h;exact c p.N (bN (cu (dH n 1).symm) p.d) Ma hL.wher3 (p.h h)
  | bB i r t A Z I R=>
   rw[N9] at h;have O:=Y.tz;have hl:(y.T.map V.bool).length=y.T.length:=bQ _;have P:=Y.ht;k_extra"w";refine Idx.mk A (by exact bw7 Z O hl) (by exact Do Z O Y.t1) λx F=>?_
   rw[GC F];cases C:y.T.getD i.toNat false with
   | true=>
    rw[C,if_pos rfl] at h;k_extra"w";exact c p.N (bN (cu (dH n 1).symm) p.d) R hL.choo2 (p.h h)
   | false=>
    rw[C,if_neg bU] at h;k_extra"w";exact c p.N (bN (cu (dH n 1).symm) p.d) I hL.choo1 (p.h h)
end
structure GP(P:List (Str×Int)):Prop where
 nd:((dS P).map (·.1)).Nodup
 wd:∀ p∈P,m9 p.1=true
 lo:∀ p∈P,-1000000000<=p.2
 hi:∀ p∈P,p.2<=1000000000
theorem QH{D:List (Str×Int)}(h:(i9 (dS D) x).isSome=false):x7 (dS D) x (.int i)=dS (D++[(x,i)]):=by
 unfold x7;rw[if_neg]
 ·unfold dS;rw[cG];rfl
 ·intro q
  have:(i9 (dS D) x).isSome=true:=by
   unfold i9;rw[Option.isSome_map,List.find?_isSome];exact a7 (ie.mp q) λp Ma e=>⟨p,Ma,e⟩
  rw[h] at this;cases this
theorem vM(h:m9 x=true):x.length<=10000:=by
 unfold m9 at h;exact bN (f4 (b9 (b9 h).1).2) (by decide)
theorem BX{D:List (Str×V)}(h:i9 D x=some v):x∈D.map (·.1):=by
 unfold i9 at h;refine a7 (cL.mp h) λq c N=>?_
 have e:=mF c;exact cD.mpr ⟨q,gU c,by simpa using e⟩
theorem GP.new{Q:List (Str×Int)}(h:GP (P++p::Q)):(i9 (dS P) p.1).isSome=false:=by
 cases e:i9 (dS P) p.1 with
 | none=>rfl
 | some v=>
  have Z:=h.nd;unfold dS at Z;rw[cG,cG] at Z;exact absurd rfl ((eN.mp Z).2.2 _ (BX e) _ (.head _))
section
variable{g:G}{Q:V->Hp->Prop}
open Internal renaming vy->y24,V4->y25
theorem cB9:True:=by
 k_with"c"=>first | refine y24 p.N (by k_extra"d") (by with_reducible assumption) ?_ | refine y25 p.N (by k_extra"d") (by intro _ e;cases e) ?_
 trivial
set_option tactic.hygienic true in
theorem bO6(N:Nm g)(hD:3<=D)(Ma:M C=some (.L (P.map tS)))(w:GP P)(hz:P.length<=1000)(h:∀ b,M b=none->Q (.ref b) (upd M b (.ds (dS P)))) :
  d8 g D true "papers_of" [.ref C] M Q X:=by
 refine bd N UW (by k_extra"b") hD λcx p=>?_
 k_extra"bJ";refine LoopR.held _ (g9 Ma Y) (Loop.g p (λc S u=>∃ A B o,P=A++B/\c=B.map tS/\u=upd M b (.ds (dS A))/\S=[some (.ref C),some (.ref b),o]) ⟨[],P,none,rfl,rfl,rfl,rfl⟩ (λcx p Z v c E=>?_) ?_)
 ·k_extra"bh"
  refine⟨g9 Ma Y,?_⟩;cases B with
  | nil=>cases e2
  | cons q B=>
   k_extra"aE";rw[qa] at E e2
   obtain⟨x,i⟩:=q;obtain rfl:v=.tup [.str x,.int i]:=e3;have y:(x,i)∈P:=by rw[e1];simp
   have H:x5 (.str x)=true:=w.wd _ y;have I:f8 (.int i) (0-1000000000) 1000000000=true:=r9 (w.lo _ y) (w.hi _ y);have F:=GP.new (p:=(x,i)) (e1▸w);have O:Cld (upd M b (.ds (dS A))) (.str x):=.str (vM H);have hl:(dS A).length<=10000:=by
    have:=congrArg List.length e1;rw[cC] at this;unfold dS;rw[bQ];exact bN (bN (eG ..) (cu this.symm)) (bN hz (by decide))
   k_extra"w"
   ·rename_i q;exact absurd F.symm q
   rw[QH (x:=x) F];exact E ⟨A++[(x,i)],B,_,by rw[e1,dB];rfl,rfl,rfl,rfl⟩
 ·k_extra"bh"
  refine⟨g9 Ma Y,?_⟩;obtain rfl:B=[]:=by cases B with | nil=>rfl | cons _ _=>cases e2
  rw[dC] at e1;subst e1;k_extra"w";exact p.h (h b Y)
theorem bV7(N:Nm g)(hD:1<=D){U:Addr}{T:List Bool}(R:M U=some (.L (T.map .bool)))(hz:T.length<=100)(e:(T.length:Int)=C)(h:Q .none M) :
  d8 g D true "need_taken" [.tup [a,b,.int C,c],.ref U] M Q X:=by
 refine bdn N J1 (by k_extra"b") hD λcx p x=>?_
 have hl:(T.map V.bool).length=T.length:=bQ _;have y:(T.map V.bool).length<=10000:=Dq hz hl;have e:((T.map V.bool).length:Int)=C:=by rw[hl];exact e
 k_extra"w"
 ·refine LoopR.held _ R (Loop.g p (λq S u=>M=u/\(∃ L:List Bool,q=L.map .bool)/\∃ o,S=[some (.tup [a,b,.int C,c]),some (.ref U),o]) ⟨rfl,⟨T,rfl⟩,none,rfl⟩ (λcx p Z v q w=>?_) ?_)
  ·rintro _ _ ⟨rfl,⟨L,E⟩,o,rfl⟩
   refine⟨R,?_⟩;cases L with
   | nil=>cases E
   | cons t L=>
    refine d5 (List.cons.inj E) λJa A=>?_;subst Ja;rw[A] at w E
    k_extra"w";exact w ⟨rfl,⟨L,rfl⟩,_,rfl⟩
  ·rintro _ _ hh;obtain⟨rfl,-,o,rfl⟩:=hh
   exact⟨R,x (Sub.refl _) h⟩
end
noncomputable def fmV(rh tc:List V)(C c:Int):V:=.tup [.tup rh,.tup tc,.int C,.int c]
def D2(rh:List V)(y:Yr)(rk:Int->Nat):List Int:=(cY rh.length).map fun(i:Nat)=>sol rh y rk i
theorem FG.lnk(h:FG rh tc C c rk):Lnk ⟨rh.length,tc.length,C⟩ rh rk:=
 ⟨λi q=>(h.gr i _ (D5 q)).ok (λj u=>u.1) (λx U=>U) (cO 8),λi q j u=>by
  refine a7 ((h.gr i _ (D5 (x:=.none) q)).aV _ u) λk e K=>?_
  rw[V.int.inj e];exact K⟩
theorem Ordr.names{F:List Int}(h:Ordr rh F):∀ {done todo:List Int} {i:Nat},F=done++(i:Int)::todo->Nms (·∈done) 8 (rh.getD i .none):=by
 induction h with
 | nil=>intro done todo i e;cases done<;>cases e
 | @snoc F k h e u=>
  intro done todo i c;rcases nq todo with rfl | ⟨todo',t,rfl⟩
  ·refine d5 (jE c rfl) λJa e2=>?_;subst Ja
   k_extra"cH";intro j q;refine d5 (vY e) λz_ S=>?_
   have:=cX.mp ((eV _ _).mp S).2 _ q;exact f4 this
  ·rw[nA,<- List.cons_append,<- dB] at c
   exact u (jE c rfl).1
theorem Gv{f:Int->Int}{l:List Int}(h:j∈l):i9 (l.map λi=>(i,V.int (f i))) j=some (.int (f j)):=by
 obtain⟨v,Z,S⟩:=vK (L:=l.map λi=>(i,V.int (f i))) (k:=j) (by rw[fK];exact cD.mpr ⟨j,h,rfl⟩)
 refine a7 (cD.mp S) λi N e=>d5 (Prod.mk.inj e) λJa c=>?_
 subst Ja;rw[<- c] at Z S e;exact Z
theorem FP{O:List Int}(hl:O.length=n)(u:O.Nodup)(I:∀ x∈O,0<=x/\x<n)(c:i<n):(i:Int)∈O:=eF λq=>by
 have:=L5 (S:=(i:Int)::O) (n:=n) (gh.mpr ⟨q,u⟩) λx hx=>by
  k_extra"aC"
  ·exact⟨du i,by exact cJ.mpr c⟩
  ·exact I x hx
 rw[dD,hl] at this;lia
theorem uc{E:List Int}(O:E=[]∨E.length=n)(h:n<=40):E.length<=100:=by
 rcases O with q | q
 ·rw[q];exact cP _
 ·exact bN (cu q) (bN h (by decide))
def bm2(rh:List V)(O:List Int)(f:Int->Int)(w:Addr)(fm c Y tk y:V)(x:V)(M:Hp)(rest:List V)(S:Lo)(M':Hp):Prop:=
 ∀ u:Prop,(∀ (done q:List Int) (o:Option V) (E:O=done++q) (C:rest=q.map .int) (A:M'=upd M w (.di (done.map λi=>(i,V.int (f i))))) (F:S=[some fm,some c,some Y,some tk,some x,some (.ref w),some y,o]),u)->u
section
variable{g:G}{Q:V->Hp->Prop}
set_option tactic.hygienic true in
theorem bf1(N:Nm g)(hD:13<=D){C w:Int}(F:FG rh tc C w rk){P:List (Str×Int)}{E:List Int}{T:List Bool}(hpa:M pa=some (.L (P.map tS)))(hP:GP P)(hz:P.length<=1000)
  (he:M I=some (.L (E.map .int))) (ez:E=[]∨E.length=rh.length) (R:M L=some (.L (T.map .bool))) (Z:(T.length:Int)=C)
  (h:∀ b,M b=none->Q (.ref b) (upd M b (.L ((D2 rh ⟨P,E,T,tc⟩ rk).map .int)))) :
  d8 g D true "reckoned" [fmV rh tc C w,.ref pa,.ref I,.ref L] M Q X:=by
 refine bd N Xe (by k_extra"b") hD λcx p=>?_
 have FF:=F.bc;have u:=F.l40;k_extra"w";have tz:T.length<=100:=by have:=F.c8;exact vB Z this
 refine bO6 p.N (p.dd (by decide)) hpa hP hz λb Ma=>?_
 k_extra"w";refine bV7 p.N (p.dd (by decide)) (g9 R Ma) tz Z ?_
 k_extra"w";rename_i va H;refine WP p.N (p.dd (by decide)) FF.rule (uT u) FF.acy λfa O hf hO K=>d5 hO.ok λOn Or=>?_
 have Y:YrAt (upd M b (.ds (dS P))) ⟨rh.length,tc.length,C⟩ ⟨P,E,T,tc⟩ b I L:=
  ⟨d6 _ _ _,g9 he Ma,g9 R Ma,by rcases ez with q | q;exact .inl q;exact .inr (by show(E.length:Int)=rh.length;rw[q]),uc ez u,Z,rfl,tz,bN F.t5 (by decide),λt R=>(F.tab t R).1⟩
 generalize hτ:upd M b (.ds (dS P))=τ at H hf Y ⊢;have U:=hτ▸Sub.upd Ma;refine LoopR.tmp hf (Loop.g p (bm2 rh O (sol rh ⟨P,E,T,tc⟩ rk) va (fmV rh tc C w) (.ref pa) (.ref I) (.ref L) (.tup [.ref b,.ref I,.ref L,.tup tc,.ref va]) (.ref b) τ) (λ_ k_=>k_ [] O none rfl rfl rfl rfl) (λcx p hB v rest Ja=>?_) ?_)
 ·k_extra"bK"
  refine⟨trivial,?_⟩;cases todo with
  | nil=>cases e2
  | cons x todo=>
   k_extra"aE";rw[qa] at Ja e2
   subst e3;obtain⟨x0,x1⟩:=Or x (by rw[e1];simp)
   refine d4 (dI x0) λi qa=>?_;subst qa
   have S:i<rh.length:=rA x1;have hnd:(i:Int)∉done:=λq=>(eN.mp (e1▸On)).2.2 _ q _ (.head _) rfl
   have hdl:done.length<=100:=by have:=congrArg List.length e1;rw[cC,K] at this;exact bN (bN (eG ..) (cu this.symm)) (bN u (by decide))
   have hmk:(done.map λi=>(i,V.int (sol rh ⟨P,E,T,tc⟩ rk i))).map (·.1)=done:=by rw[fK];exact List.map_id'' (λ_=>rfl) _
   k_extra"w";refine Idx.mk (du i) (x1) (fu x1 (dz (cZ.mpr u) (by decide))) λr hr=>?_
   obtain rfl:r=rh.getD i .none:=ue hr;refine bk2 (f:=sol rh ⟨P,E,T,tc⟩ rk) (Y.sub (Sub.upd H)) (d6 _ _ _) 8 p.N (p.dd (by decide)) (F.lnk.ok i S) (λj hj=>Gv (hO.names e1 j hj)) ?_
   rw[rN F.lnk S];have hL:(done.map λi=>(i,V.int (sol rh ⟨P,E,T,tc⟩ rk i))).length<=10000:=by rw[bQ];exact L9 hdl
   k_extra"w";refine Ja (λ_ k_=>k_ (done++[(i:Int)]) todo _ (by rw[e1,dB];rfl) rfl ?_ rfl)
   rw[Cr (by rw[hmk];exact hnd),cG];rfl
 ·k_extra"bK"
  k_extra"W";k_extra"5"
  rw[dC] at e1;subst e1;k_extra"w";refine Y1 p (λi A M'=>upd τ va (.di (O.map λi=>(i,V.int (sol rh ⟨P,E,T,tc⟩ rk i))))=M'/\A=((cY i).map fun(k:Nat)=>sol rh ⟨P,E,T,tc⟩ rk k).map V.int) (cZ.mpr (bN u (by decide))) ⟨rfl,rfl⟩ (λcx p i A S Ja hN=>?_) ?_
  ·rintro _ y;refine d5 y λqa qb=>?_;clear y;subst qa;rw[qb] at Ja hN
   k_extra"K";k_extra"w";exact DAt.mk _ (Gv (FP K On Or (GF S))) (Ja ⟨rfl,by rw[gJ,cG,cG];rfl⟩)
  ·rintro A _ ⟨rfl,rfl⟩ c hcn
   have e2:((rh.length:Int)-0).toNat=rh.length:=D8 _;rw[e2];exact d5 (j3 hcn) λc1 c2=>p.r (G2 (U.trans (Sub.upd H))) (h c (j4 U c2))
end
theorem v7(h:∀ x∈l,nz x=true):nzL l=true:=by
 induction l with
 | nil=>rfl
 | cons x l ih=>
  show(nz x&&nzL l)=true;rw[h x (.head _),ih λy L=>h y (.tail _ L)];rfl
theorem O4(Z:zp l=false)(S:nzL l=true):nz (.tup l)=true:=by
 show(!zp l&&nzL l)=true;rw[Z,S];rfl
theorem rJ(U:zp [x,y,z]=false)(Z:nz x=true)(S:nz y=true)(c:nz z=true):nz (.tup [x,y,z])=true:=O4 U (by
 show(nz x&&(nz y&&(nz z&&true)))=true;rw[Z,S,c];rfl)
theorem rK(U:zp [x,y,z,u]=false)(Z:nz x=true)(S:nz y=true)(c:nz z=true)(q:nz u=true):nz (.tup [x,y,z,u])=true:=O4 U (by
 show(nz x&&(nz y&&(nz z&&(nz u&&true))))=true;rw[Z,S,c,q];rfl)
theorem yr:∀ (n:Nat) {v:V},ok z n v=true->nz v=true:=by
 intro n;induction n with
 | zero=>intro v h;exact ff h
 | succ n c=>
  intro v h;cases pR h with
  | num i=>rfl
  | aD x=>rfl
  | line i Y Z=>rfl
  | au i Y Z=>rfl
  | part r i I Y Z=>exact rJ rfl rfl (c I) rfl
  | table i r Y Z I=>exact rJ rfl rfl rfl (c I)
  | two w r t S I R=>exact rJ rfl rfl (c I) (c R)
  | bA r t u I R q=>exact rK rfl rfl (c I) (c R) (c q)
  | bB i r t Y Z I R=>exact rK rfl rfl rfl (c I) (c R)
theorem vA(h:∀ x∈l,∃ k,x=.tup k):zp l=false:=by
 cases l with
 | nil=>rfl
 | cons x l=>
  refine d4 (h x (.head _)) λk Ja=>?_;subst Ja
  cases l with
  | nil=>rfl
  | cons y l=>cases l with
   | nil=>rfl
   | cons _ _=>rfl
theorem QJ(h:ok z 8 v=true):∃ k,v=.tup k:=by
 cases pR h<;>exact⟨_,rfl⟩
theorem Hv(h:u9 t=true):nz t=true:=by
 refine a7 (qO h) λl qa hr=>?_;subst qa
 refine O4 (vA λx hx=>?_) (v7 λx hx=>?_)
 ·k_extra"cD";exact⟨_,rfl⟩
 ·k_extra"cD";rfl
theorem FG.nz{rk:Int->Nat}(F:FG rh tc C c rk):nz (fmV rh tc C c)=true:=by
 have q:=F.bc;refine rK rfl (O4 (vA λx U=>QJ (q.rule x U).ok) (v7 λx U=>yr 8 (q.rule x U).ok)) (O4 (vA λx U=>?_) (v7 λx U=>Hv (F.tab x U).1)) rfl rfl
 refine a7 (qO (F.tab x U).1) λl Ja N=>?_;subst Ja
 exact⟨_,rfl⟩
theorem NR.nil:NR []:=λi v e=>by cases e
theorem NR.cons{o:Option V}{J:Lo}(h:∀ v,o=some v->Internal.nz v=true)(k:NR J):NR (o::J):=λi v e=>by
 cases i with
 | zero=>exact h v (d7 e)
 | succ i=>exact k i v e
theorem NR.some{J:Lo}(h:Internal.nz v=true)(k:NR J):NR (some v::J):=k.cons λw e=>by cases e;exact h
structure PAt(M:Hp)(cs:List Addr)(Ls:List (List V)):Prop where
 len:cs.length=Ls.length
 at':∀ {j:Nat} {c:Addr} {x:List V},cs[j]?=some c->Ls[j]?=some x->M c=some (.L x)
theorem PAt.nil:PAt M [] []:=⟨rfl,λe=>by cases e⟩
theorem PAt.sub(h:PAt M cs c)(k:Sub M M'):PAt M' cs c:=⟨h.len,λE C=>k _ _ (h.at' E C)⟩
theorem PAt.aB{A:List Addr}(h:PAt M cs q)(k:e8 A M M')(R:∀ c∈cs,c∉A):PAt M' cs q:=⟨h.len,λE C=>k _ _ (R _ (cA E)) (h.at' E C)⟩
theorem R7{c:Type}{l:List c}{x y:c}(h:(l++[x])[j]?=some y):(j<l.length/\l[j]?=some y)∨(j=l.length/\y=x):=by
 by_cases q:j<l.length
 ·rw[gP q] at h;exact .inl ⟨q,h⟩
 ·rw[eX (dO q)] at h
  have S:=(cj.mp h).1;rw[iT] at S;have e:=gf (Nat.le_of_sub_eq_zero (Nat.lt_one_iff.mp S)) (dO q);subst e;rw[ji] at h;exact .inr ⟨rfl,(d7 h).symm⟩
theorem PAt.snoc{M:Hp}{cs:List Addr}{q:List (List V)}{c:Addr}{x:List V}(h:PAt M cs q)(e:M c=some (.L x)):PAt M (cs++[c]) (q++[x]):=
 ⟨by rw[cC,cC,h.len];rfl,λe1 e2=>by
  rcases R7 e1 with ⟨q1,e1⟩ | ⟨q1,rfl⟩
  ·k_extra"ao"
   ·exact h.at' e1 e2
   ·have:=h.len;exact Cp q1 q2 this
  ·k_extra"ao"
   ·have:=h.len;exact zP q1 q2 this
   ·exact e⟩
theorem PAt.get(h:PAt M cs u){j:Nat}{x:List V}(e:u[j]?=some x):∃ c,cs[j]?=some c/\M c=some (.L x):=by
 k_extra"bD"
theorem PAt.has(h:PAt M cs u)(hc:c∈cs):∃ x∈u,M c=some (.L x):=by
 obtain⟨j,hj,rfl⟩:=ig hc;have q:=hj;rw[h.len] at q;exact⟨_,fL q,h.at' (bO hj) (bO q)⟩
def eS(rh tc:List V)(rk:Int->Nat)(E:List Int)(r:List (Str×Int)×List Bool):List Int:=D2 rh ⟨r.1,E,r.2,tc⟩ rk
def eY(rh tc:List V)(rk:Int->Nat)(Us:List (List (Str×Int)))(Ts:List (List Bool))(k:Nat):List Int:=((Us.zip Ts).take k).foldl (eS rh tc rk) []
def hL(rh tc:List V)(rk:Int->Nat)(Us:List (List (Str×Int)))(Ts:List (List Bool))(k:Nat):List (List V):=(cY k).map λj=>(eY rh tc rk Us Ts (j+1)).map V.int
section
variable{rk:Int->Nat}
theorem U8(q:Us[k]?=some u)(c:Ts[k]?=some T):eY rh tc rk Us Ts (k+1)=D2 rh ⟨u,eY rh tc rk Us Ts k,T,tc⟩ rk:=by
 have e:(Us.zip Ts)[k]?=some (u,T):=List.getElem?_zip_eq_some.mpr ⟨q,c⟩;unfold eY;rw[iG,e,List.foldl_append];rfl
theorem HJ:(D2 rh y rk).length=rh.length:=by unfold D2;rw[bQ,dM]
theorem uW(k:Nat):eY rh tc rk Us Ts k=[]∨(eY rh tc rk Us Ts k).length=rh.length:=by
 induction k with
 | zero=>exact .inl rfl
 | succ k c=>
  cases e:(Us.zip Ts)[k]? with
  | none=>unfold eY;rw[iG,e,Option.toList_none,dC];exact c
  | some r=>unfold eY;rw[iG,e,List.foldl_append];exact .inr HJ
theorem HN(k:Nat):hL rh tc rk Us Ts (k+1)=hL rh tc rk Us Ts k++[(eY rh tc rk Us Ts (k+1)).map V.int]:=by
 unfold hL;rw[gJ,cG];rfl
theorem uL(k:Nat):(hL rh tc rk Us Ts k).length=k:=by unfold hL;rw[bQ,dM]
theorem JH(h:x∈hL rh tc rk Us Ts k):∃ j,x=(eY rh tc rk Us Ts (j+1)).map V.int:=by
 refine a7 (cD.mp h) λj N Ja=>?_;subst Ja
 exact⟨j,rfl⟩
end
theorem D3{l:List Addr}:nzO (.L (l.map V.ref))=true:=v7 λx U=>by refine a7 (cD.mp U) λc N Ja=>?_;subst Ja;rfl
theorem qH{l:List Int}:nzO (.L (l.map V.int))=true:=v7 λx U=>by refine a7 (cD.mp U) λc N Ja=>?_;subst Ja;rfl
def CpJ(I:Hp)(cs:List Addr)(u:List (List V))(rest acc:List V)(M':Hp):Prop:=
 ∀ c:Prop,(∀ (q w L:List Addr) (E:cs=q++w) (C:rest=w.map .ref) (x:acc=L.map .ref) (P:Sub I M') (A:NZ M') (y:PAt M' L (u.take q.length)) (nw:∀ b∈L,I b=none),c)->c
theorem cA2{g:G}{K:KT}{s:List V}{J:Lo}(p:Pk pq tab g n QQ Z cx)(U:I T=some (.L (cs.map .ref)))(Ja:PAt I cs w)(hz:cs.length<=1000)(hl:∀ x∈w,x.length<=10000)(nz:NZ I)
  (h:∀ M' b bs,Sub I M'->NZ M'->M' b=some (.L (bs.map .ref))->PAt M' bs w->(∀ c∈bs,I c=none)->I b=none->K cx (.ref b::s) J M'):CLoop ((IC.e (.list (.v 0))).w true) K [] (cs.map .ref) (λM=>M T=some (.L (cs.map .ref))) cx s J I:=by
 refine CLoop.g p (CpJ I cs w) (by rw[bQ];exact Bh hz) (λz_ O=>O [] cs [] rfl rfl rfl (Sub.refl _) nz PAt.nil (λc hc=>(by cases hc))) (λcx p v S A R hN=>?_) ?_
 ·rintro M' E;k_extra"cj"
  refine⟨P _ _ U,?_⟩;cases d2 with
  | nil=>cases e2
  | cons c d2=>
   k_extra"8";rw[qb] at R hN e2
   have hc:cs[H.length]?=some c:=by rw[e1,eX (cO _),ji];rfl
   have q:=(cj.mp hc).1;rw[Ja.len] at q;have F:=bO q;have C:=Ja.at' hc F;refine Look.mk _ (P _ _ C) (Req.mk (hl _ (fL q)) λb Y=>R (λz_ O=>O (H++[c]) d2 (bs++[b]) (by rw[e1,dB];rfl) rfl (by rw[cG];rfl) (P.trans (Sub.upd Y)) (L.upd (nz c _ C)) ?_ (λy hy=>?_)))
   ·rw[cC]
    show PAt _ _ (w.take (H.length+1));rw[iG,F];exact(u.sub (Sub.upd Y)).snoc (d6 _ _ _)
   ·rcases cz.mp hy with q | q
    ·exact nw y q
    ·rw[bV.mp q];exact j4 P Y
 ·rintro A M' E;k_extra"cj"
  refine⟨P _ _ U,λa Ma=>?_⟩
  k_extra"E"
  rw[dC] at e1;subst e1;rw[Ja.len,iV] at u;exact h _ a bs (P.trans (Sub.upd Ma)) (L.upd D3) (d6 _ _ _) (u.sub (Sub.upd Ma)) nw (j4 P Ma)
structure HIn(M:Hp)(ya ta:Addr)(as bs:List Addr)(Us:List (List (Str×Int)))(Ts:List (List Bool))(C:Int):Prop where
 hy:M ya=some (.L (as.map .ref))
 ht:M ta=some (.L (bs.map .ref))
 pa:PAt M as (Us.map (·.map tS))
 ba:PAt M bs (Ts.map (·.map .bool))
 lu:Us.length=Ts.length
 gp:∀ u∈Us,GP u
 uz:∀ u∈Us,u.length<=1000
 tz:∀ T∈Ts,(T.length:Int)=C
 zz:Ts.length<=100
def HsJ(rh tc:List V)(rk:Int->Nat)(Us:List (List (Str×Int)))(Ts:List (List Bool))(fm:V)(y U w:Addr)(M:Hp)(i:Nat)(S:Lo)(M':Hp):Prop:=
 ∀ u:Prop,(∀ (q:Addr) (cs:List Addr) (P R:Option V) (H:Sub M M') (F:NZ M') (T:M' w=some (.L (cs.map .ref))) (C:PAt M' cs (hL rh tc rk Us Ts i)) (E:M' q=some (.L ((eY rh tc rk Us Ts i).map .int)))
  (A:∀ c∈cs,c≠w) (x:q≠w) (I:∀ v,P=some v->nz v=true) (K:∀ v,R=some v->nz v=true) (e:S=[some fm,some (.ref y),some (.ref U),some (.ref w),some (.ref q),P,R]),u)->u
section
variable{g:G}{Q:V->Hp->Prop}
set_option tactic.hygienic true in
theorem bP5(N:Nm g)(hD:14<=D){rk:Int->Nat}(F:FG rh tc C w rk){U:Addr}{as bs:List Addr}(H:HIn M Z U as bs Us Ts C)(nz:NZ M)
  (h:∀ M' b cs,Sub M M'->NZ M'->M' b=some (.L (cs.map .ref))->PAt M' cs (hL rh tc rk Us Ts Ts.length)->(∀ c∈cs,M c=none)->M b=none->Q (.ref b) M') :
  d8 g D true "history" [fmV rh tc C w,.ref Z,.ref U] M Q X:=by
 refine bd N bQ1 (by k_extra"b") hD λcx p=>?_
 k_extra"aS"
 k_extra"db"
 have el:min (as.map V.ref).length (bs.map V.ref).length=Ts.length:=by rw[bQ,bQ,la,lb,oK]
 have zk:∀ {M':Hp} {fa Ma:Addr} {o1 o2:Option V},Sub M M'->NZ M'->(∀ v,o1=some v->Internal.nz v=true)->(∀ v,o2=some v->Internal.nz v=true)->ZipK Z U (as.map .ref) (bs.map .ref) [some (fmV rh tc C w),some (.ref Z),some (.ref U),some (.ref fa),some (.ref Ma),o1,o2] M':=λP I Y K=>
  ⟨P _ _ hy,P _ _ ht,λx hx=>by
   refine a7 (cD.mp hx) λc hc qa=>?_;subst qa
   refine a7 (pa.has hc) λz _ e=>?_
   exact⟨c,_,rfl,P _ _ e⟩,I,.some F.nz (.some rfl (.some rfl (.some rfl (.some rfl (.cons Y (.cons K .nil))))))⟩
 k_extra"w";rename_i fa O Ma A;refine LoopZ.g p (l:=as.map .ref) (m:=bs.map .ref) (by k_extra"h") (by k_extra"h") (HsJ rh tc rk Us Ts (fmV rh tc C w) Z U fa M) (λ_ k_=>k_ Ma [] none none ((Sub.upd O).trans (Sub.upd A)) ((nz.upd rfl).upd rfl) (g9 (d6 _ _ _) A) PAt.nil (d6 _ _ _) (λc hc=>(by cases hc)) ((j3 A).1) (λv e=>(by cases e)) (λv e=>(by cases e)) rfl) (λcx p i x y hJ=>?_) ?_
 ·rintro _ M' hx S R;k_extra"bR"
  have hi:i<Ts.length:=by have:=(cj.mp S).1;rw[bQ,lb] at this;exact this
  k_extra"O"
  k_extra"bz"
  obtain rfl:x=.ref a:=by rw[bW,ha] at hx;exact(d7 hx).symm
  obtain rfl:y=.ref b:=by rw[bW,hb] at S;exact(d7 S).symm
  have mu:=cA hU;refine⟨zk P I Y K,?_⟩;have hcl:(cs.map V.ref).length<=10000:=by rw[bQ,hP.len,uL];exact bN (dK hi) (bN zz (by decide))
  k_extra"w";refine bf1 p.N (p.dd (by decide)) F (P _ _ hau) (gp u mu) (uz u mu) he (uW i) (P _ _ hbt) (tz T (cA hT)) λb hb=>?_
  have eb:D2 rh ⟨u,eY rh tc rk Us Ts i,T,tc⟩ rk=eY rh tc rk Us Ts (i+1):=(U8 hU hT).symm;rw[eb];have E:=(j8 hf hb).symm;have em:cs.map V.ref++[V.ref b]=(cs++[b]).map V.ref:=by rw[cG];rfl
  k_extra"w";rw[em];refine hJ (λ_ k_=>k_ b (cs++[b]) _ _ (λc o e=>?_) ((I.upd qH).upd D3) (d6 _ _ _) ?_ (by rw[e9 _ _ E];exact d6 _ _ _) (λc hc=>?_) E (λv e=>(by cases e;rfl)) (λv e=>(by cases e;rfl)) rfl)
  ·rw[e9 _ _ (j8 e O)];exact Sub.upd hb _ _ (P _ _ e)
  ·rw[HN]
   exact(hP.aB ((e8.new hb).trans (e8.upd (by k_extra"m"))) λc hc=>j9 (Ja c hc)).snoc (by rw[e9 _ _ E];exact d6 _ _ _)
  ·k_extra"co"
   ·exact Ja c q
   ·rw[bV.mp q];exact E
 ·rintro _ M' R;k_extra"bR"
  rw[el] at hP he;refine⟨zk P I Y K,?_⟩;k_extra"w";refine cA2 p hf hP (by rw[hP.len,uL];exact bN zz (cT ..)) (λx hx=>?_) I λL b bs k1 k2 k3 k4 k5 k6=>p.h (h L b bs (P.trans k1) k2 k3 k4 (λc hc=>j4 P (k5 c hc)) (j4 P k6))
  refine d4 (JH hx) λj qa=>?_;subst qa
  rw[bQ];have:=uc (uW (rh:=rh) (tc:=tc) (rk:=rk) (Us:=Us) (Ts:=Ts) (j+1)) F.l40;exact L9 this
set_option tactic.hygienic true in
theorem XJ(N:Nm g)(hD:1<=D)(R:u9 t=true)(h:Q (.int (atN t n)) M):d8 g D true "_law_at" [t,.int n] M Q X:=by
 refine bd N PX (by k_extra"b") hD λcx p=>a7 (qO R) λl Ja hr=>?_
 subst Ja;k_extra"w";refine Loop.g p (AtJ l n 1 M) (λ_ k_=>k_ 0 [none] rfl hr rfl rfl rfl) (λcx p Z v rest hJ=>?_) ?_
 ·k_extra"R"
  k_extra"W";refine d4 (bX9 hl) λP Ja=>?_;subst Ja
  k_extra"cm"
  k_extra"b5"
  k_extra"w"
  ·rename_i q
   k_extra"bo"
  ·rename_i q
   k_extra"bp"
 ·k_extra"R"
  k_extra"cu"
end
theorem i8{k:Int}{K:V->Prop}(n:Nat)(x:V)(e:k=n)(U:l[n]?=some x)(c:n<=100)(h:K x):Idx l k K:=by
 subst e;exact⟨du n,cJ.mpr (cj.mp U).1,by exact cJ.mpr (dq c (by decide)),λy L=>d7 (U.symm.trans L)▸h⟩
theorem Cz{k:Int}{K:V->Prop}(n:Nat)(x:V)(e:k=n)(U:l[n]?=some x)(h:K x):Pick l k K:=by
 subst e;exact⟨du n,cJ.mpr (cj.mp U).1,λy L=>d7 (U.symm.trans L)▸h⟩
theorem Z3{v:V}{L:List (Str×V)}:i9 ((k,v)::L) k=some v:=by
 unfold i9;rw[iw,show decide ((k,v).1=k)=true from decide_eq_true rfl];rfl
theorem Q1{v:V}{L:List (Str×V)}(h:c≠k):i9 ((c,v)::L) k=i9 L k:=by
 unfold i9;rw[iw,show decide ((c,v).1=k)=false from decide_eq_false h]
theorem Ge:slc y c (l.map f)=(slc y c l).map f:=by
 unfold slc;rw[bQ,List.map_take,List.map_drop]
theorem Fv{l:List Int}{i:Int}(Y:0<=i):(slc (some i) (some (i+1)) l).sum=l.getD i.toNat 0:=by
 have E:clipAt l.length i=min i.toNat l.length:=U5 Y;have C:clipAt l.length (i+1)=min (i.toNat+1) l.length:=by rw[U5 (jY Y (by decide)),Int.toNat_add Y (by decide)];rfl
 show((l.drop (clipAt l.length i)).take (clipAt l.length (i+1)-clipAt l.length i)).sum=_;rw[E,C,cI];by_cases h:i.toNat<l.length
 ·rw[je (dK h),je (show i.toNat+1<=l.length from h),Nat.add_sub_cancel_left,bO h,gQ h,List.take_succ_cons,List.take_zero,List.sum_cons,List.sum_nil,Int.add_zero];rfl
 ·rw[jA (dO h),lH,List.take_nil,fH (dO h)];rfl
structure SgAt(M:Hp)(z:Lim)(y:Yr)(Ls:List Int)(la pa ea ta:Addr):Prop where
 hl:M la=some (.L (Ls.map .int))
 hp:M pa=some (.L (y.P.map tS))
 nd:((dS y.P).map (·.1)).Nodup
 pz:(dS y.P).length<=10000
 he:M ea=some (.L (y.E.map .int))
 ht:M ta=some (.L (y.T.map .bool))
 lz:Ls.length<=100
 e1:y.E.length<=100
 tz:(y.T.length:Int)=z.C
 bz:(y.tc.length:Int)=z.T
 t1:y.T.length<=100
 b1:y.tc.length<=100
 tab:∀ t∈y.tc,u9 t=true
section
variable{g:G}
set_option tactic.hygienic true in
theorem Xh{y:Yr}{I:List Int}{A U:Addr}(S:SgAt M z y I A L Ja U):∀ (n:Nat) {g:G} {D:Nat} {v:V} {Q:V->Hp->Prop} {X:Str->Hp->Prop},Nm g->n+2<=D->ok z n v=true->Q (.int (wv y (λi=>I.getD i.toNat 0) n v)) M->
  d8 g D true "_law_value" [v,.tup [.ref A,.ref L,.ref Ja,.tup y.tc,.ref U]] M Q X:=by
 intro n;induction n with
 | zero=>intro g D v Q X N hD hk;exact ff hk
 | succ n ih=>
  intro g D v Q X N hD hk h;obtain⟨T,Ma,nd,pz,he,P,lz,E,O,c,t1,R,tab⟩:=S;have C:(y.P.map tS)=(dS y.P).map F7:=by unfold dS;rw[fK];rfl
  rw[C] at Ma;have n1:(I.map V.int).length<=10000:=by rw[bQ];exact L9 lz
  have n2:(y.E.map V.int).length<=10000:=by rw[bQ];exact L9 E
  have n3:(y.T.map V.bool).length=y.T.length:=bQ _;refine bd N YC (by k_extra"b") hD λcx p=>?_
  cases pR hk with
  | num i=>
   k_extra"w";exact p.h (by rw[S7] at h;exact h)
  | aD x=>
   rw[S5] at h;k_extra"w";refine DOf.mk (dS y.P) Ma nd pz λb Y=>?_
   k_extra"w";rw[Dk];exact p.r (Sub.upd Y) h
  | line i H Z=>
   rw[P8] at h;k_extra"w";refine i8 0 _ (by k_extra"#") rfl (by decide) ?_
   k_extra"bJ";refine SumL.mk (slc (some i) (some (i+1)) I) (by rw[Ge];exact d6 _ _ _) ?_
   rw[Fv H];exact p.r (Sub.upd Y) h
  | au i H Z=>
   rw[R9] at h;k_extra"w";refine i8 2 _ (by k_extra"#") rfl (by decide) ?_
   k_extra"bJ";refine SumL.mk (slc (some i) (some (i+1)) y.E) (by rw[Ge];exact d6 _ _ _) ?_
   rw[Fv H];exact p.r (Sub.upd Y) h
  | part r i hr H Z=>
   rw[T2] at h;k_extra"w";refine ih p.N (bN (cu (dH n 1).symm) p.d) hr ?_;k_extra"w";exact p.h h
  | table i r H Z hr=>
   rw[P5] at h;k_extra"w";refine Idx.mk H (lt_of_lt_of_eq Z (id (lE c))) (yt c R Z) λt ht=>ih p.N (bN (cu (dH n 1).symm) p.d) hr ?_
   refine XJ p.N (by k_extra"d") (tab t (cA ht)) ?_
   rw[ue ht];exact p.h h
  | two w r t K hr ht=>
   rw[R8 K] at h;cases K
   ·rw[xY] at h
    k_extra"o";rename_i b Y;exact(DAt.mk _ Z3 (p.r (Sub.upd Y) h))
   ·rw[Dw] at h
    k_extra"o";rename_i b Y;exact(DAt.mk _ ((Q1 (by k_extra"#")).trans Z3) (p.r (Sub.upd Y) h))
   ·rw[Hq] at h
    k_extra"o";rename_i b Y;exact(DAt.mk _ ((Q1 (by k_extra"#")).trans ((Q1 (by k_extra"#")).trans Z3)) (p.r (Sub.upd Y) h))
   ·rw[BR] at h
    k_extra"w";refine ih p.N (bN (cu (dH n 1).symm) p.d) hr ?_;k_extra"w";refine ih p.N (bN (cu (dH n 1).symm) p.d) ht ?_;k_extra"w";rename_i b Y;exact(DAt.mk _ ((Q1 (by k_extra"#")).trans ((Q1 (by k_extra"#")).trans ((Q1 (by k_extra"#")).trans Z3))) (p.r (Sub.upd Y) h))
  | bA r t u hr ht hu=>
   rw[N8] at h;k_extra"o";refine ih p.N (bN (cu (dH n 1).symm) p.d) hu ?_;by_cases q:0<wv y (λi=>I.getD i.toNat 0) n r
   ·rw[if_pos q] at h
    exact Cz 1 _ (by rw[decide_eq_true q];rfl) rfl (p.h h)
   ·rw[if_neg q] at h
    exact Cz 0 _ (by rw[decide_eq_false q];rfl) rfl (p.h h)
  | bB i r t H Z hr ht=>
   rw[N9] at h;k_extra"w";refine Idx.mk H (Yk O n3 Z) (yt O t1 Z) λx F=>?_
   rw[GC F];k_extra"w";cases Y:y.T.getD i.toNat false with
   | true=>
    rw[Y,if_pos rfl] at h;exact i8 3 t rfl rfl (by decide) (ih p.N (bN (cu (dH n 1).symm) p.d) ht (p.h h))
   | false=>
    rw[Y,if_neg bU] at h;exact i8 2 r rfl rfl (by decide) (ih p.N (bN (cu (dH n 1).symm) p.d) hr (p.h h))
theorem Rr(N:Nm g)(hD:1<=D){Q:VP}(h:Q (.bool true) M):d8 g D true "_law_whole" [.int i] M Q X:=by
 refine bd N RK (by k_extra"b") hD λcx p=>?_
 k_extra"w";exact p.h h
end
structure Fl(l:List V):Prop where
 fl:aq l=true
 de:aF l<=1
theorem Fl.of(h:∀ x∈l,flat x=true/\dep x<=1):Fl l:=by
 induction l with
 | nil=>exact⟨rfl,cP _⟩
 | cons x l ih=>
  refine d5 (h x (.head _)) λZ S=>?_
  obtain⟨c,q⟩:=ih λy L=>h y (.tail _ L)
  exact⟨by show(flat x&&aq l)=true;rw[Z,c];rfl,lC.mpr ⟨S,q⟩⟩
theorem Fl.ints{l:List Int}:Fl (l.map .int):=.of λx U=>by refine a7 (cD.mp U) λi N Ja=>?_;subst Ja;exact⟨rfl,cP _⟩
structure Tp(rh:List V)(F:List Int):Prop where
 nd:F.Nodup
 rg:∀ x∈F,0<=x/\x<rh.length
 nm:∀ {done todo:List Int} {i:Nat},F=done++(i:Int)::todo->Nms (·∈done) 8 (rh.getD i .none)
theorem Tp.snoc{rh:List V}{F:List Int}{k:Nat}(h:Tp rh F)(K:k<rh.length)(u:(k:Int)∉F)(c:Nms (·∈F) 8 (rh.getD k .none)):Tp rh (F++[(k:Int)]):=by
 refine⟨eN.mpr ⟨h.nd,by simp,λx hx y hy q=>?_⟩,λx hx=>?_,fun{done todo i} e=>?_⟩
 ·rw[bV.mp hy] at q;exact u (q▸hx)
 ·k_extra"aD"
  ·exact h.rg x q
  ·rw[bV.mp q];exact⟨du _,cJ.mpr K⟩
 ·rcases nq todo with rfl | ⟨todo',t,rfl⟩
  ·refine d5 (jE e rfl) λJa e2=>?_;subst Ja
   k_extra"cH";exact c
  ·rw[nA,<- List.cons_append,<- dB] at e
   exact h.nm (jE e rfl).1
theorem Jg(c:1<=d){T:List Int}{Q:VP}(h:Q (.bool T.isEmpty) M):EqL false d (T.map .int) [] M Q:=by
 refine EqL.mk (Fl.ints (l:=T)).fl rfl (bN (fB (gW _ _)) (qe c)) ?_;cases T with
 | nil=>exact h
 | cons _ _=>exact h
theorem Uc(h:Lnk z rh rk){F:List Int}(hF:F.length<rh.length):∃ i,i<rh.length/\(i:Int)∉F/\Nms (·∈F) 8 (rh.getD i .none):=by
 have c:∀ (k:Nat) (i:Nat),i<rh.length->(i:Int)∉F->rk i=k->∃ j,j<rh.length/\(j:Int)∉F/\Nms (·∈F) 8 (rh.getD j .none):=by
  intro k;induction k using jT with
  | ind k A=>
   intro i hi C K;by_cases q:Nms (·∈F) 8 (rh.getD i .none)
   ·exact⟨i,hi,C,q⟩
   ·refine d4 (Classical.not_forall.mp q) λj u=>d5 (Classical.not_imp.mp u) λu w=>?_
    obtain⟨⟨I,E⟩,H⟩:=h.dn i hi j u;have e:=dN I;exact A (rk j) (K▸H) j.toNat (by exact Zd E e) (by rw[e];exact w) (by rw[e])
 have x:∃ i,i<rh.length/\((i:Nat):Int)∉F:=eF λhno=>by
  k_extra"bn"
  have:=pQ (l:=(cY rh.length).map fun(i:Nat)=>V.int i) (k:=F.map .int) (List.Pairwise.map _ (λa b hab e=>hab (Int.ofNat.inj (V.int.inj e))) jD) λy hy=>by
   refine a7 (cD.mp hy) λi hi qa=>?_;subst qa
   exact cD.mpr ⟨_,hall i (dY.mp hi),rfl⟩
  rw[bQ,bQ,dM] at this;exact ik _ (cR hF this)
 exact a7 x λi hi C=>c _ i hi C rfl
def RwJ(rh:List V)(q:List Int)(w:Nat)(r:Addr)(M:Hp)(i:Nat)(S:Lo)(M':Hp):Prop:=
 ∀ c:Prop,(∀ (F G:List Int) (R o3:Option V) (E:F=q++G) (y:Tp rh F) (A:w<i->(w:Int)∈F) (x:e8 [r] M M') (I:M' r=some (.L (F.map .int))) (u:S=[some (.tup rh),some (.ref r),R,o3]),c)->c
section
variable{g:G}{Q:V->Hp->Prop}
set_option tactic.hygienic true in
theorem bs5(N:Nm g)(hD:12<=D)(F:FG rh tc C ow rk)
  (h:∀ r O,M r=none->Tp rh O->O.length=rh.length->Q (.ref r) (upd M r (.L (O.map .int)))):d8 g D true "_law_row" [.tup rh] M Q X:=by
 refine bd N by1 (by k_extra"b") hD λcx p=>?_
 have l40:=F.l40;have FF:=F.bc;k_extra"w";rename_i r hr;have p0:=p;refine Whl.g p (λm J' M'=>∃ (O:List Int) (o2 o3:Option V),Tp rh O/\m=rh.length-O.length/\e8 [r] (upd M r (.L [])) M'/\M' r=some (.L (O.map .int))/\J'=[some (.tup rh),some (.ref r),o2,o3]) (rh.length-0)
  ⟨[],none,none,⟨.nil,λx hx=>(by cases hx),fun{done H i} e=>(by cases done<;>cases e)⟩,rfl,e8.refl,d6 _ _ _,rfl⟩ λcx p hB m hW=>?_
 rintro _ M' Ja;refine x4 Ja λO o2 o3 hO qa hS hr' qb=>?_;clear Ja;rw[qa] at hW;subst qb
 have hOl:(O.map V.int).length=O.length:=bQ _;have hOz:=L5 hO.nd hO.rg;have hOz':(O.map V.int).length<=10000:=by exact bN (cu hOl) (bN hOz (bN l40 (by decide)))
 k_extra"w"
 ·rename_i Ma
  have Ma:O.length<rh.length:=bn6 hOl Ma;refine f5 (Uc F.lnk Ma) λw hw hwO hwN=>?_
  refine x2 p (RwJ rh O w r M') (λ_ k_=>k_ O [] o2 o3 ((dC _).symm) hO (λq=>absurd q (gA _)) e8.refl hr' rfl) (λcx p hB i hi Z=>?_) ?_
  ·k_extra"bO"
   k_extra"K";have S:i<rh.length:=GF hi;have Y:=L5 R.nd R.rg;have hF1l:(I.map V.int).length<=10000:=by rw[bQ];exact bN (bN Y l40) (by decide)
   k_extra"w";refine i8 i _ rfl (D5 (x:=.none) S) (by lia) ?_
   have RO:=FF.rule _ (cA (D5 (x:=.none) S));refine Wt (z:=⟨rh.length,tc.length,C⟩) rfl 8 p.N (p.dd (by decide)) RO.ok (RO.few _) λe L he hSr hm=>?_
   obtain⟨l,rfl⟩:∃ l:List Int,L=l.map .int:=ug λy hy=>by
    refine a7 ((F.gr i _ (D5 (x:=.none) S)).aV y ((hm y).mp hy)) λj ej _=>?_
    exact⟨j,ej⟩
   have hll:=pQ hSr λy hy=>(hm y).mp hy
   have hfew:=RO.few (bM "line");have hre:=j8 P he;have hNm:Nms (·∈I) 8 (rh.getD i .none)↔(l.filter λj=>!decide (j∈I))=[]:=by
    rw[List.filter_eq_nil_iff];constructor
    ·intro q j hj
     have:=q j ((hm _).mp (cD.mpr ⟨j,hj,rfl⟩));simp[this]
    ·intro q j hj
     refine a7 (cD.mp ((hm _).mpr hj)) λk hk ek=>?_
     have:=q k hk;rw[<- V.int.inj ek]
     simpa using this
   refine Look.mk _ (d6 _ _ _) ?_;refine CLoop.g p (λU A M4=>upd M3 e (.L (l.map .int))=M4/\∃ done H:List Int,l=done++H/\U=H.map .int/\A=(done.filter λj=>!decide (j∈I)).map V.int) (by exact bN hll (bN (dK hfew) (by decide))) ⟨rfl,[],l,rfl,rfl,rfl⟩ (λcx p v U A hJ3 hN=>?_) ?_
   ·rintro _ Ja;obtain⟨rfl,done,H,e4,e5,rfl⟩:=Ja
    refine⟨d6 _ _ _,?_⟩;cases H with
    | nil=>cases e5
    | cons j H=>
     refine d5 (List.cons.inj e5) λe6 qa=>?_;rw[qa] at hJ3 hN e5
     subst e6;k_extra"bG"
     k_extra"w";all_goals
      rename_i q;first | exact hJ3 ⟨rfl,done++[j],H,by rw[e4,dB];rfl,rfl,by rw[gw];simp[q]⟩ | exact hN ⟨rfl,done++[j],H,by rw[e4,dB];rfl,rfl,by rw[gw];simp[q]⟩
   ·rintro A _ Ja;obtain⟨rfl,done,H,e4,e5,rfl⟩:=Ja
    obtain rfl:H=[]:=by cases H with | nil=>rfl | cons _ _=>cases e5
    rw[dC] at e4;subst e4;refine⟨d6 _ _ _,λa ha=>?_⟩
    have hra:=j8 (g9 P he) ha;k_extra"bG"
    k_extra"w"
    ·rename_i qi
     refine Z (λ_ k_=>k_ I G _ _ E R (λq=>?_) (c.trans ((e8.new he).trans (e8.new ha))) (by k_extra"h") rfl)
     by_cases K:w=i
     ·rw[K];exact qi
     ·exact u (wG q K)
    ·rename_i qi b hb
     have hrb:=j8 (g9 (g9 P he) ha) hb;have k3:=c.trans (((e8.new (x:=.L (l.map .int)) he).trans (e8.new (x:=.L ((l.filter λj=>!decide (j∈I)).map .int)) ha)).trans (e8.new (x:=.L []) hb))
     refine Jg (by k_extra"d") ?_
     cases hf:(l.filter λj=>!decide (j∈I)).isEmpty with
     | true=>
      k_extra"w";refine Z (λ_ k_=>k_ (I++[(i:Int)]) (G++[(i:Int)]) _ _ (by rw[E,dB]) (R.snoc S qi (hNm.mpr (dh.mp hf))) (λq=>?_) (k3.trans (e8.upd (by k_extra"m"))) (by rw[d6,cG];rfl) rfl)
      by_cases K:w=i
      ·rw[K];simp
      ·exact cV _ (u (by exact wG q K))
     | false=>
      k_extra"w";refine Z (λ_ k_=>k_ I G _ _ E R (λq=>?_) k3 (by k_extra"h") rfl)
      by_cases K:w=i
      ·have:(l.filter λj=>!decide (j∈I))=[]:=hNm.mp (K▸λj hj=>E▸cV _ (hwN j hj))
       rw[this] at hf;cases hf
      ·exact u (by exact wG q K)
  ·k_extra"bO"
   have e2:((rh.length:Int)-0).toNat=rh.length:=D8 _;rw[e2] at u;have hin:=u hw;have Y:=L5 R.nd R.rg;have T:O.length<I.length:=by
    cases G with
    | nil=>rw[dC] at E;rw[E] at hin;exact absurd hin hwO
    | cons x G=>rw[E,cC,dD];lia
   exact hW (j:=rh.length-I.length) (Nat.sub_lt_sub_left (cR T Y) T) ⟨I,o2,o3,R,rfl,hS.trans c,P,rfl⟩
 ·rename_i Ma
  have hle:O.length=rh.length:=by exact ZK hOl hOz Ma
  refine hB (p0.r (M':=upd M r (.L (O.map .int))) (λa o e=>?_) (h r O hr hO hle))
  by_cases q:a=r
  ·rw[q,d6] at e;rw[q,hr'];exact e
  ·rw[e9 _ _ q] at e;exact hS a o (j9 q) (g9 e hr)
end
def AlJ(O:List Int)(n:Nat)(f:Int->Int)(A:Addr)(I:Hp)(u:Option V->Lo)(rest:List V)(S:Lo)(M':Hp):Prop:=
 ∀ w:Prop,(∀ (done c q:List Int) (o:Option V) (E:O=done++c) (C:rest=c.map .int) (hl:q.length=n) (T:∀ j∈done,q.getD j.toNat 0=f j) (x:M'=upd I A (.L (q.map .int))) (y:S=u o),w)->w
def AyJ(rh tc:List V)(rk:Int->Nat)(Us:List (List (Str×Int)))(Ts:List (List Bool))(fm r y t:V)(w:Addr)(M:Hp)(i:Nat)(S:Lo)(M':Hp):Prop:=
 ∀ u:Prop,(∀ (q:Addr) (cs:List Addr) (P R o3 x:Option V) (I:Sub M M') (H:NZ M') (T:M' w=some (.L (cs.map .ref))) (E:PAt M' cs (hL rh tc rk Us Ts i)) (F:M' q=some (.L ((eY rh tc rk Us Ts i).map .int)))
  (A:q≠w) (C:∀ c∈cs,c≠w) (nw:∀ c∈cs,M c=none) (e:S=[some fm,some r,some y,some t,some (.ref w),some (.ref q),P,R,o3,x]),u)->u
theorem Pq{l:List Int}(h:i<l.length)(j:Nat):(l.set i x).getD j 0=if i=j then x else l.getD j 0:=by
 rw[cI,cI,iH];by_cases q:i=j
 ·rw[if_pos q,if_pos q,if_pos h];rfl
 ·rw[if_neg q,if_neg q]
theorem map_set{q c:Type}(f:q->c)(l:List q)(i:Nat)(x:q):(l.map f).set i (f x)=(l.set i x).map f:=(lX).symm
theorem cq7:(bY n [V.int 0]).flatten=(bY n (0:Int)).map .int:=by
 induction n with
 | zero=>rfl
 | succ n ih=>rw[jd,jn,ih];rfl
theorem YK{rk:Int->Nat}{c O:List Int}(hl:c.length=rh.length)(q:∀ i,i<rh.length->(i:Int)∈O)(T:∀ j∈O,c.getD j.toNat 0=sol rh y rk j):c=D2 rh y rk:=by
 apply jm;intro i;unfold D2;rw[bW];by_cases h:i<rh.length
 ·have:=T i (q i h)
  rw[fU,cI,bO (hl▸h)] at this;rw[gB h,bO (hl▸h)];exact congrArg some this
 ·rw[fH (by rw[hl];exact dO h),fH (by rw[dM];exact dO h)];rfl
section
variable{g:G}{Q:V->Hp->Prop}
set_option tactic.hygienic true in
theorem Hi(N:Nm g)(hD:11<=D){A:Int}(F:FG rh tc C A rk){O:List Int}(hr:M r=some (.L (O.map .int)))(hO:Tp rh O)(hOl:O.length=rh.length)
  (H:HIn M ya ta as bs Us Ts C) (nz:NZ M)
  (h:∀ M' b cs,Sub M M'->NZ M'->M' b=some (.L (cs.map .ref))->PAt M' cs (hL rh tc rk Us Ts Ts.length)->(∀ c∈cs,M c=none)->M b=none->Q (.ref b) M') :
  d8 g D true "_law_all" [fmV rh tc C A,.ref r,.ref ya,.ref ta] M Q X:=by
 refine bd N Nj (by k_extra"b") hD λcx p=>?_
 k_extra"aS"
 k_extra"db"
 have l40:=F.l40;have Ja:(as.map V.ref).length=Ts.length:=by rw[bQ];exact la
 have lOm:(O.map V.int).length=rh.length:=by rw[bQ];exact hOl
 k_extra"w";rename_i fa Y ea E;refine x2 p (AyJ rh tc rk Us Ts (fmV rh tc C A) (.ref r) (.ref ya) (.ref ta) fa M) (λ_ k_=>k_ ea [] none none none none ((Sub.upd Y).trans (Sub.upd E)) ((nz.upd rfl).upd rfl) (g9 (d6 _ _ _) E) PAt.nil (d6 _ _ _) ((j3 E).1) (λc hc=>(by cases hc)) (λc hc=>(by cases hc)) rfl) (λcx p hB i hi hJ=>?_) ?_
 ·k_extra"a2"
  k_extra"K";have hi:i<Ts.length:=pU Ja hi;k_extra"O"
  k_extra"bz"
  have mu:=cA hU;have mT:=cA hT;have tz':T.length<=100:=by have:=tz T mT;have:=F.c8;exact vB (by assumption) this
  have Ma:=P _ _ hr;have hy':=P _ _ hy;have ht':=P _ _ ht;k_extra"w";rename_i z hz la y;have w:=(j3 y).2;refine i8 i (.ref a) rfl (by rw[bW,ha];rfl) (GJ zz Ja (by assumption)) ?_
  k_extra"w";refine i8 i (.ref b) rfl (by rw[bW,hb];rfl) (GJ zz Ja (by assumption)) ?_
  rw[lOm,fU,cq7];have hfz:fa≠z:=j8 hf hz;have U:fa≠la:=j8 hf w;have S:Sub M' (upd M' z (.L [.int 0])):=Sub.upd hz;generalize hτ:upd M' z (.L [.int 0])=τ at y S ⊢;have hyr:∀ {R:List Int},R.length=rh.length->SgAt (upd τ la (.L (R.map .int))) ⟨rh.length,tc.length,C⟩ ⟨u,eY rh tc rk Us Ts i,T,tc⟩ R la a ea b:=fun{R} hl=>
   ⟨d6 _ _ _,g9 (S _ _ (P _ _ hau)) y,(gp u mu).nd,by unfold dS;rw[bQ];exact bN (uz u mu) (by decide),g9 (S _ _ he) y,g9 (S _ _ (P _ _ hbt)) y,by rw[hl];exact uT l40,uc (uW i) l40,tz T mT,rfl,tz',bN F.t5 (by decide),λt ht=>(F.tab t ht).1⟩
  refine LoopR.held (O.map .int) (g9 (S _ _ Ma) y) (Loop.g p (AlJ O rh.length (sol rh ⟨u,eY rh tc rk Us Ts i,T,tc⟩ rk) la τ (λo=>[some (fmV rh tc C A),some (.ref r),some (.ref ya),some (.ref ta),some (.ref fa),some (.ref ea),some (.int i),some (.ref la),some (.tup [.ref la,.ref a,.ref ea,.tup tc,.ref b]),o])) (λ_ k_=>k_ [] O _ _ rfl rfl dG (λj hj=>(by cases hj)) rfl rfl) (λcx p hB v rest hJ2=>?_) ?_)
  ·k_extra"bq"
   refine⟨g9 (S _ _ Ma) y,?_⟩;cases todo with
   | nil=>cases e2
   | cons x todo=>
    k_extra"aE";rw[qa] at hJ2 e2
    subst e3;obtain⟨x0,x1⟩:=hO.rg x (by rw[e1];simp)
    refine d4 (dI x0) λk qa=>?_;subst qa
    have K:k<rh.length:=rA x1;have hnd:(k:Int)∉done:=λq=>(eN.mp (e1▸hO.nd)).2.2 _ q _ (.head _) rfl
    have hll:(R.map V.int).length=rh.length:=by rw[bQ];exact hl
    k_extra"w";refine i8 k _ rfl (D5 (x:=.none) K) (bN (dK (cJ.mp x1)) (bN l40 (by decide))) (Xh (hyr hl) 8 p.N (p.dd (by decide)) (F.lnk.ok k K) ?_)
    have ev:wv ⟨u,eY rh tc rk Us Ts i,T,tc⟩ (λi=>R.getD i.toNat 0) 8 (rh.getD k .none)=sol rh ⟨u,eY rh tc rk Us Ts i,T,tc⟩ rk k:=by
     rw[<- rN F.lnk K];exact rQ (F.lnk.ok k K) λj hj=>I j (hO.nm e1 j hj)
    rw[ev];k_extra"w";refine hJ2 (λ_ k_=>k_ (done++[(k:Int)]) todo (R.set k (sol rh ⟨u,eY rh tc rk Us Ts i,T,tc⟩ rk k)) _ (by rw[e1,dB];rfl) rfl (by rw[dZ];exact hl) (λj hj=>?_) (by rw[fU,map_set]) rfl)
    rw[Pq (hl▸K)];rcases cz.mp hj with q | q
    ·rw[if_neg fun(e:k=j.toNat)=>hnd (by have:=(hO.rg j (by rw[e1];exact cV _ q)).1;rw[e,dN this];exact q)];exact I j q
    ·rw[bV.mp q,fU,if_pos rfl]
  ·k_extra"bq"
   refine⟨g9 (S _ _ Ma) y,?_⟩;k_extra"5"
   rw[dC] at e1;rw[<- e1] at I;have eL:R=eY rh tc rk Us Ts (i+1):=by rw[U8 hU hT];exact YK hl (λk K=>FP hOl hO.nd hO.rg K) I
   subst eL;have hfa':=g9 (o:=.L ((eY rh tc rk Us Ts (i+1)).map .int)) (S _ _ hf) y;have hcl:(cs.map V.ref).length<=10000:=by rw[bQ,hP.len,uL];exact cq3 zz Ja (by assumption)
   k_extra"w";have em:cs.map V.ref++[V.ref la]=(cs++[la]).map V.ref:=by rw[cG];rfl
   rw[em];refine hJ (λ_ k_=>k_ la (cs++[la]) _ _ _ _ (λc o e=>?_) (((hτ▸hn.upd rfl).upd qH).upd D3) (d6 _ _ _) ?_ (by rw[e9 _ _ U.symm];exact d6 _ _ _) U.symm (λc hc=>?_) (λc hc=>?_) rfl)
   ·rw[e9 _ _ (j8 e Y)];exact Sub.upd y _ _ (S _ _ (P _ _ e))
   ·rw[HN]
    exact(((hP.sub S).sub (Sub.upd y)).aB (e8.upd (by k_extra"m")) λc hc=>j9 (Z c hc)).snoc (by rw[e9 _ _ U.symm];exact d6 _ _ _)
   ·k_extra"co"
    ·exact Z c q
    ·rw[bV.mp q];exact U.symm
   ·k_extra"co"
    ·exact nw c q
    ·rw[bV.mp q];exact j4 P w
 ·k_extra"a2"
  have e2:(((as.map V.ref).length:Int)-0).toNat=Ts.length:=by rw[Ja];exact D8 _
  rw[e2] at hP;k_extra"w";exact p.h (h M' fa cs P hn hf hP nw Y)
end
noncomputable def rwV(f:Nat->Nat->Int)(m y:Nat):List V:=(cY m).map λl=>V.int (f y l)
def k8(f:Nat->Nat->Int)(m n:Nat):List (List V):=(cY n).map (rwV f m)
noncomputable def cel(f g:Nat->Nat->Int)(y l:Nat):List V:=bif f y l==g y l then[] else[.tup [.int y,.int l]]
def C2(f g:Nat->Nat->Int)(y m:Nat):List V:=(cY m).flatMap (cel f g y)
def chg(f g:Nat->Nat->Int)(m n:Nat):List V:=(cY n).flatMap λy=>C2 f g y m
section
variable{f g:Nat->Nat->Int}{m n y l:Nat}
theorem U7:C2 f g y (m+1)=C2 f g y m++cel f g y m:=by unfold C2;rw[gJ,oA,mY]
theorem vJ:chg f g m (n+1)=chg f g m n++C2 f g n m:=by unfold chg;rw[gJ,oA,mY]
theorem Jk(h:f y l=g y l):cel f g y l=[]:=by unfold cel;rw[beq_iff_eq.mpr h];rfl
theorem ay2(h:f y l≠g y l):cel f g y l=[.tup [.int y,.int l]]:=by unfold cel;rw[beq_eq_false_iff_ne.mpr h];rfl
theorem bt6:(cel f g y l).length<=1:=by unfold cel;cases f y l==g y l<;>first | exact cO _ | exact cP _
theorem wO:(C2 f g y m).length<=m:=by
 induction m with
 | zero=>exact cO _
 | succ m c=>rw[U7,cC];exact iM c bt6
theorem vo:(chg f g m n).length<=n*m:=by
 induction n with
 | zero=>exact cP _
 | succ n c=>rw[vJ,cC,Nat.succ_mul];exact iM c wO
theorem cc4(h:x∈cel f g y l):∃ i j:Int,x=.tup [.int i,.int j]:=by
 unfold cel at h;cases q:f y l==g y l with
 | true=>rw[q] at h;cases h
 | false=>rw[q] at h;exact⟨_,_,bV.mp h⟩
theorem wW(h:x∈chg f g m n):∃ i j:Int,x=.tup [.int i,.int j]:=by
 refine a7 (List.mem_flatMap.mp h) λy N h=>a7 (List.mem_flatMap.mp h) λl N h=>?_
 exact cc4 h
theorem Dz:Fl (chg f g m n):=.of λx hx=>by
 refine j7 (wW hx) λi j qa=>?_;subst qa
 exact⟨rfl,cO 1⟩
theorem uv:nzO (.L (chg f g m n))=true:=v7 λx hx=>by
 refine j7 (wW hx) λi j qa=>?_;subst qa;rfl
theorem YG:cel f g y l=cel g f y l:=by unfold cel;rw[Bool.beq_comm (a:=f y l)]
theorem Px:chg f g m n=chg g f m n:=by
 unfold chg C2
 congr 1;funext y
 congr 1;funext l
 exact YG
theorem H3(h:y<n):(k8 f m n)[y]?=some (rwV f m y):=by unfold k8;rw[bW,gB h];rfl
theorem pZ(h:l<m):(rwV f m y)[l]?=some (.int (f y l)):=by unfold rwV;rw[bW,gB h];rfl
theorem sJ:(rwV f m y).length=m:=by unfold rwV;rw[bQ,dM]
theorem G8:(k8 f m n).length=n:=by unfold k8;rw[bQ,dM]
end
theorem bU9{L:List Int}:L.map V.int=(cY L.length).map λl=>V.int (L.getD l 0):=by
 apply jm;intro i;rw[bW,bW];by_cases h:i<L.length
 ·rw[gB h,bO h,jN,jN,cI,bO h];rfl
 ·rw[fH (dO h),fH (by rw[dM];exact dO h)];rfl
def yF(rh tc:List V)(rk:Int->Nat)(Us:List (List (Str×Int)))(Ts:List (List Bool))(y l:Nat):Int:=(eY rh tc rk Us Ts (y+1)).getD l 0
theorem Kz(Z:k<Us.length)(S:k<Ts.length):(eY rh tc rk Us Ts (k+1)).length=rh.length:=by
 rw[U8 (bO Z) (bO S)];exact HJ
theorem sS{n:Nat}(Z:n<=Us.length)(S:n<=Ts.length):hL rh tc rk Us Ts n=k8 (yF rh tc rk Us Ts) rh.length n:=by
 unfold hL k8;refine gD λy L=>?_
 have L:=dY.mp L;have hl:=Kz (rh:=rh) (tc:=tc) (rk:=rk) (k:=y) (cR L Z) (cR L S);rw[bU9,hl];rfl
def ChJ(c:Option V->Option V->Lo)(L:Nat->List V)(w:Addr)(I:Hp)(i:Nat)(S:Lo)(M':Hp):Prop:=
 ∀ q:Prop,(∀ (P R:Option V) (E:M'=upd I w (.L (L i))) (C:S=c P R),q)->q
section
variable{g:G}{Q:V->Hp->Prop}
set_option tactic.hygienic true in
theorem Yq(N:Nm g)(hD:1<=D){f h':Nat->Nat->Int}{m n:Nat}(Ma:M c=some (.L (as.map .ref)))(Y:M I=some (.L (bs.map .ref)))(O:PAt M as (k8 f m n))(P:PAt M bs (k8 h' m n))(hm:m<=40)(K:n<=8)
  (h:∀ b,M b=none->Q (.ref b) (upd M b (.L (chg f h' m n)))):d8 g D true "_law_changed" [.ref c,.ref I] M Q X:=by
 refine bd N cw7 (by k_extra"b") hD λcx p=>?_
 have A:(as.map V.ref).length=n:=by rw[bQ,O.len,G8]
 k_extra"w";rename_i w L;refine x2 p (ChJ (λo1 o2=>[some (.ref c),some (.ref I),some (.ref w),o1,o2]) (chg f h' m) w M) (λ_ k_=>k_ none none rfl rfl) (λcx p Z i H hJ=>?_) ?_
 ·k_extra"Z"
  k_extra"K";have H:i<n:=by exact pU A H
  refine a7 (O.get (H3 H)) λa E u=>a7 (P.get (H3 H)) λb C U=>?_
  have Ja:(as.map V.ref)[i]?=some (.ref a):=by rw[bW,E];rfl
  have R:(bs.map V.ref)[i]?=some (.ref b):=by rw[bW,C];rfl
  have lr:(rwV f m i).length=m:=sJ;k_extra"w";refine i8 i _ rfl Ja (by exact T4 K A (by assumption)) ?_
  k_extra"w";refine x2 p (ChJ (λ_ o2=>[some (.ref c),some (.ref I),some (.ref w),some (.int i),o2]) (λj=>chg f h' m i++C2 f h' i j) w M) (λ_ k_=>k_ o1 o2 (by show _=upd M w (.L (chg f h' m i++[]));rw[dC]) rfl) (λcx p Z j hj hJ2=>?_) ?_
  ·k_extra"Z"
   have e0:(0:Int)+(j:Int)=j:=dF _;rw[e0];have hj:j<m:=pU lr hj;k_extra"w";refine i8 i _ rfl Ja (T4 K A (by assumption)) ?_
   k_extra"bL"
   k_extra"w";refine i8 i _ rfl R (T4 K A (by assumption)) ?_
   k_extra"bL"
   have F:(chg f h' m i++C2 f h' i j).length<=10000:=by
    rw[cC];have S:=wO (f:=f) (g:=h') (y:=i) (m:=j);have:i*m<=8*40:=nC (Ft K A (by assumption)) hm
    exact ym hm lr (by assumption) (vo (f:=f) (g:=h') (m:=m) (n:=i)) S this
   k_extra"w"
   ·rename_i q
    k_extra"bS"
   ·rename_i q
    k_extra"bT"
  ·k_extra"Z"
   have C:(((rwV f m i).length:Int)-0).toNat=m:=by rw[lr];exact D8 _
   rw[C];exact hJ (λ_ k_=>k_ _ _ (by rw[vJ]) rfl)
 ·k_extra"Z"
  have C:(((as.map V.ref).length:Int)-0).toNat=n:=by rw[A];exact D8 _
  rw[C];k_extra"w";exact p.h (h w L)
end
noncomputable def Q2(fm:V)(pa ma ra:Addr):List (Str×V):=[("rows",.ref ra),("marks",.ref ma),("papers",.ref pa),("form",fm)]
theorem br8{fm:V}:A8 (Q2 fm pa ma ra) "rows" (.ref c)=Q2 fm pa ma c:=by
 unfold A8 Q2;rw[fY,if_neg (by simp),fY,if_pos (by simp;decide +kernel),fY,if_pos (by simp;decide +kernel),fY,if_pos (by simp;decide +kernel)];rfl
structure DsAt(M:Hp)(cs:List Addr)(U:List (List (Str×Int))):Prop where
 len:cs.length=U.length
 at':∀ {j:Nat} {c:Addr} {u:List (Str×Int)},cs[j]?=some c->U[j]?=some u->M c=some (.ds (dS u))
theorem DsAt.sub(h:DsAt M cs U)(k:Sub M M'):DsAt M' cs U:=⟨h.len,λE c=>k _ _ (h.at' E c)⟩
theorem DsAt.get(h:DsAt M cs U){j:Nat}{u:List (Str×Int)}(e:U[j]?=some u):∃ c,cs[j]?=some c/\M c=some (.ds (dS u)):=by
 k_extra"bD"
structure RkAt(M:Hp)(fm:V)(x d pa ma:Addr)(fs:List (Str×V))(pds mks:List Addr)(U:List (List (Str×Int)))(T:List (List Bool)):Prop where
 hx:M x=some (.ob "File" d)
 hd:M d=some (.na fs)
 f1:(bM "papers",V.ref pa)∈fs
 f2:(bM "form",fm)∈fs
 f3:(bM "marks",V.ref ma)∈fs
 hp:M pa=some (.L (pds.map .ref))
 hm:M ma=some (.L (mks.map .ref))
 pd:DsAt M pds U
 mb:PAt M mks (T.map (·.map .bool))
structure FlAt(M:Hp)(fm:V)(x d pa ma ra:Addr)(pds mks rws:List Addr)(U:List (List (Str×Int)))(T:List (List Bool))(R:List (List V)):Prop where
 hx:M x=some (.ob "File" d)
 hd:M d=some (.na (Q2 fm pa ma ra))
 hp:M pa=some (.L (pds.map .ref))
 hm:M ma=some (.L (mks.map .ref))
 hr:M ra=some (.L (rws.map .ref))
 pd:DsAt M pds U
 mb:PAt M mks (T.map (·.map .bool))
 ro:PAt M rws R
 np:pds.Nodup
 nm:mks.Nodup
 a1:pa∉mks
 a2:ma∉mks
 a3:ra∉mks
 a4:∀ c∈rws,c∉mks
section
variable{fm:V}{x d:Addr}{T:List (List Bool)}{R:List (List V)}{K:V->Prop}{P:Prop}
theorem FlAt.sub(h:FlAt M fm x d pa ma ra pds mks rws U T R)(k:Sub M M'):FlAt M' fm x d pa ma ra pds mks rws U T R:=⟨k _ _ h.hx,k _ _ h.hd,k _ _ h.hp,k _ _ h.hm,k _ _ h.hr,h.pd.sub k,h.mb.sub k,h.ro.sub k,h.np,h.nm,h.a1,h.a2,h.a3,h.a4⟩
theorem FlAt.rk(h:FlAt M fm x d pa ma ra pds mks rws U T R):RkAt M fm x d pa ma (Q2 fm pa ma ra) pds mks U T:=⟨h.hx,h.hd,.tail _ (.tail _ (.head _)),.tail _ (.tail _ (.tail _ (.head _))),.tail _ (.head _),h.hp,h.hm,h.pd,h.mb⟩
theorem FlAt.rows(h:FlAt M fm x d pa ma ra pds mks rws U T R)(k:K (.ref ra)):AAt M x "File" "rows" K:=.mk d _ _ h.hx h.hd (.head _) k
theorem FlAt.marks(h:FlAt M fm x d pa ma ra pds mks rws U T R)(k:K (.ref ma)):AAt M x "File" "marks" K:=.mk d _ _ h.hx h.hd (.tail _ (.head _)) k
theorem FlAt.bH(h:FlAt M fm x d pa ma ra pds mks rws U T R)(k:K (.ref pa)):AAt M x "File" "papers" K:=.mk d _ _ h.hx h.hd (.tail _ (.tail _ (.head _))) k
theorem FlAt.bc(h:FlAt M fm x d pa ma ra pds mks rws U T R)(k:K fm):AAt M x "File" "form" K:=.mk d _ _ h.hx h.hd (.tail _ (.tail _ (.tail _ (.head _)))) k
theorem FlAt.m{nm:Str}(h:FlAt M fm x d pa ma ra pds mks rws U T R)(c:([bM "rows",bM "marks",bM "papers",bM "form"]).contains nm=false)(k:P):OAt M x "File" nm P:=.mk d _ h.hx h.hd c k
end
def ItJ(I:Hp)(cs:List Addr)(U:List (List (Str×Int)))(rest acc:List V)(M':Hp):Prop:=
 ∀ c:Prop,(∀ (q w L:List Addr) (E:cs=q++w) (u:rest=w.map .ref) (y:acc=L.map .ref) (H:Sub I M') (F:NZ M') (A:PAt M' L ((U.take q.length).map (·.map tS))),c)->c
theorem Ak(u:List (Str×Int)):(dS u).map F7=u.map tS:=by unfold dS;rw[fK];rfl
theorem R6{u:List (Str×Int)}:nzO (.L (u.map tS))=true:=v7 λx q=>by refine a7 (cD.mp q) λc N Ja=>?_;subst Ja;rfl
section
variable{g:G}{Q:V->Hp->Prop}{C:Int}{rk:Int->Nat}{x d:Addr}{T:List (List Bool)}{R:List (List V)}
theorem Eh(N:Nm g)(hD:15<=D)(F:FG rh tc C ow rk)(A:RkAt M (fmV rh tc C ow) x d pa ma H pds mks U T)(lu:U.length=T.length)(gp:∀ u∈U,GP u)(uz:∀ u∈U,u.length<=1000)(tz:∀ t∈T,(t.length:Int)=C)(zz:T.length<=100)(nz:NZ M)
  (h:∀ M' b cs,Sub M M'->NZ M'->M' b=some (.L (cs.map .ref))->PAt M' cs (hL rh tc rk U T T.length)->(∀ c∈cs,M c=none)->M b=none->Q (.ref b) M') :
  d8 g D true "File.reckon" [.ref x] M Q X:=by
 refine bd N bR4 (by k_extra"b") hD λcx p=>?_
 k_extra"w";refine AAt.mk d H _ A.hx A.hd A.f1 ?_;have lp:pds.length<=100:=by rw[A.pd.len,lu];exact zz
 refine Look.mk _ A.hp (CLoop.g p (ItJ M pds U) (by rw[bQ];exact L9 lp) (λz_ Z=>Z [] pds [] rfl rfl rfl (Sub.refl _) nz PAt.nil) (λcx p v rest Ja hJ hN=>?_) ?_)
 ·clear hN;rintro M' E;k_extra"cx"
  refine⟨w _ _ A.hp,?_⟩;cases d2 with
  | nil=>cases e2
  | cons c d2=>
   k_extra"8";rw[qb] at hJ e2
   have hc:pds[O.length]?=some c:=by rw[e1,eX (cO _),ji];rfl
   have q:=(cj.mp hc).1;rw[A.pd.len] at q;have hu:=bO q;refine Itms.mk _ (w _ _ (A.pd.at' hc hu)) (by unfold dS;rw[bQ];exact bN (uz _ (fL q)) (by decide)) λb hb=>hJ (λz_ Z=>Z (O++[c]) d2 (Ma++[b]) (by rw[e1,dB];rfl) rfl (by rw[cG];rfl) (w.trans (Sub.upd hb)) (Y.upd (by rw[Ak];exact R6)) ?_)
   rw[cC,iT,iG,hu,cG,Ak];exact(y.sub (Sub.upd hb)).snoc (d6 _ _ _)
 ·rintro Ja M' E;k_extra"cx"
  refine⟨w _ _ A.hp,λya I=>?_⟩
  k_extra"E"
  rw[dC] at e1;clear e2;rw[<- e1] at y;rw[A.pd.len,iV] at y;have S:=w.trans (Sub.upd (o:=.L (Ma.map .ref)) I);k_extra"w";refine AAt.mk d H _ (S _ _ A.hx) (S _ _ A.hd) A.f2 ?_;k_extra"w";refine AAt.mk d H _ (S _ _ A.hx) (S _ _ A.hd) A.f3 (bP5 p.N (p.dd (by decide)) F ⟨d6 _ _ _,S _ _ A.hm,y.sub (Sub.upd I),A.mb.sub S,lu,gp,uz,tz,zz⟩ (Y.upd D3) λL b cs k1 k2 k3 k4 k5 k6=>?_)
  exact p.h (h L b cs (S.trans k1) k2 k3 k4 (λc hc=>j4 S (k5 c hc)) (j4 S k6))
set_option tactic.hygienic true in
theorem X2(N:Nm g)(hD:2<=D){fm:V}(A:FlAt M fm x d pa ma ra pds mks rws U T R)(hz:rws.length<=100)(ok:Ok M v)(Z:f8 v 0 ((rws.length:Int)-1)=true->Q .none M)(S:f8 v 0 ((rws.length:Int)-1)=false->X "NoYear" M) :
  d8 g D true "File.need_year" [.ref x,v] M Q X:=by
 refine bdn N Rh (by k_extra"b") hD λcx p c=>?_
 have I:=A.hr;have hl:(rws.map V.ref).length=rws.length:=bQ _;k_extra"w";refine A.rows ?_;k_extra"w";refine G1 p.N (p.dd (by decide)) ok ?_
 rw[hl];k_extra"w"
 ·rename_i q
  exact c (Sub.refl _) (Z q)
 ·rename_i q
  exact p.x (S q)
end
noncomputable def AObj.kd(o:AObj):Nat:=match o with
 | .L _=>0
 | .di _=>1
 | .ds _=>2
 | .ex _=>3
 | .ob _ _=>4
 | .na _=>5
theorem r6(Ma:M a=some o)(O:M c=some o')(h:o.kd≠o'.kd):a≠c:=λe=>by
 rw[e,O] at Ma;exact h (congrArg AObj.kd (d7 Ma)).symm
noncomputable def B7(u:List (Str×Int))(w:Str)(i:Int):List (Str×Int):=if u.any (λp=>decide (p.1=w)) then u.map (λp=>if p.1=w then(w,i) else p) else u++[(w,i)]
theorem Ra(u:List (Str×Int))(w:Str)(i:Int):x7 (dS u) w (.int i)=dS (B7 u w i):=by
 unfold x7 B7 dS;have e:(u.map λp=>(p.1,V.int p.2)).any (λq=>decide (q.1=w))=u.any λp=>decide (p.1=w):=by rw[oH];rfl
 rw[e];by_cases q:(u.any λp=>decide (p.1=w))=true
 ·rw[if_pos q,if_pos q,fK,fK]
  refine gD λp N=>?_
  by_cases z:p.1=w
  ·simp[z]
  ·simp[z]
 ·rw[if_neg q,if_neg q,cG];rfl
theorem cc3:nzO (.ds (dS u))=true:=by
 show nzL ((dS u).map (·.2))=true
 unfold dS;rw[fK];exact v7 λx q=>by refine a7 (cD.mp q) λc N Ja=>?_;subst Ja;rfl
theorem N2{T:List Bool}:nzO (.L (T.map .bool))=true:=v7 λx q=>by refine a7 (cD.mp q) λc N Ja=>?_;subst Ja;rfl
theorem yW{l:List Addr}(hn:l.Nodup){j:Nat}{x:Addr}(hi:l[i]?=some x)(hj:l[j]?=some x):i=j:=by
 k_extra"aN"
theorem PAt.set{cs:List Addr}{u:List (List V)}(h:PAt M cs u)(hn:cs.Nodup){c:Addr}(hc:cs[y]?=some c)(x:List V):PAt (upd M c (.L x)) cs (u.set y x):=
 ⟨by rw[dZ];exact h.len,fun{j c' z} e1 e2=>by
  rw[iH] at e2;by_cases q:y=j
  ·subst q
   k_extra"b8";by_cases A:y<u.length
   ·rw[if_pos A] at e2;rw[d6,d7 e2]
   ·rw[if_neg A] at e2;cases e2
  ·rw[if_neg q] at e2
   rw[e9 _ _ (λe=>q (yW hn hc (by rw[<- e];exact e1)))];exact h.at' e1 e2⟩
theorem DsAt.set{cs:List Addr}(h:DsAt M cs U)(hn:cs.Nodup){c:Addr}(hc:cs[y]?=some c)(u:List (Str×Int)):DsAt (upd M c (.ds (dS u))) cs (U.set y u):=
 ⟨by rw[dZ];exact h.len,fun{j c' z} e1 e2=>by
  rw[iH] at e2;by_cases q:y=j
  ·subst q
   k_extra"b8";by_cases A:y<U.length
   ·rw[if_pos A] at e2;rw[d6,d7 e2]
   ·rw[if_neg A] at e2;cases e2
  ·rw[if_neg q] at e2
   rw[e9 _ _ (λe=>q (yW hn hc (by rw[<- e];exact e1)))];exact h.at' e1 e2⟩
section
variable{g:G}{Q:V->Hp->Prop}{C:Int}{rk:Int->Nat}{x d:Addr}{T:List (List Bool)}{R:List (List V)}{fm:V}
theorem FlAt.put(A:FlAt M fm x d pa ma ra pds mks rws U T R)(F:U[y]?=some u)(O:pds[y]?=some c)(q:List (Str×Int)):FlAt (upd M c (.ds (dS q))) fm x d pa ma ra pds mks rws (U.set y q) T R:=by
 have h:=A.pd.at' O F;have k:∀ {a l},M a=some (.L l)->upd M c (.ds (dS q)) a=some (.L l):=λe=>p8 e (r6 e h (show(0:Nat)≠2 by decide))
 exact⟨p8 A.hx (r6 A.hx h (show(4:Nat)≠2 by decide)),p8 A.hd (r6 A.hd h (show(5:Nat)≠2 by decide)),k A.hp,k A.hm,k A.hr,A.pd.set A.np O q,⟨A.mb.len,λE w=>k (A.mb.at' E w)⟩,⟨A.ro.len,λE w=>k (A.ro.at' E w)⟩,A.np,A.nm,A.a1,A.a2,A.a3,A.a4⟩
theorem FlAt.take(A:FlAt M fm x d pa ma ra pds mks rws U T R)(F:T[y]?=some t)(O:mks[y]?=some c)(w:List Bool):FlAt (upd M c (.L (w.map .bool))) fm x d pa ma ra pds mks rws U (T.set y w) R:=by
 have h:=A.mb.at' O (x:=t.map .bool) (by rw[bW,F];rfl)
 have k:∀ {a:Addr},a∉mks->a≠c:=λq e=>q (by rw[e];exact(cA O))
 have e:(T.set y w).map (·.map V.bool)=(T.map (·.map V.bool)).set y (w.map .bool):=lX
 exact⟨p8 A.hx (r6 A.hx h (show(4:Nat)≠0 by decide)),p8 A.hd (r6 A.hd h (show(5:Nat)≠0 by decide)),p8 A.hp (k A.a1),p8 A.hm (k A.a2),p8 A.hr (k A.a3),⟨A.pd.len,λE u=>p8 (A.pd.at' E u) (r6 (A.pd.at' E u) h (show(2:Nat)≠0 by decide))⟩,by rw[e];exact A.mb.set A.nm O _,⟨A.ro.len,λE u=>p8 (A.ro.at' E u) (k (A.a4 _ (cA E)))⟩,A.np,A.nm,A.a1,A.a2,A.a3,A.a4⟩
structure Yrs(C:Int)(U:List (List (Str×Int)))(T:List (List Bool)):Prop where
 lu:U.length=T.length
 gp:∀ u∈U,GP u
 uz:∀ u∈U,u.length<=1000
 tz:∀ t∈T,(t.length:Int)=C
 zz:T.length<=8
set_option tactic.hygienic true in
theorem Ov(N:Nm g)(hD:16<=D)(F:FG rh tc C ow rk)(A:FlAt M (fmV rh tc C ow) x d pa ma ra pds mks rws U T (k8 f rh.length T.length))(Y:Yrs C U T)(nz:NZ M)
  (h:∀ M' w rb cs,e8 [d] M M'->NZ M'->FlAt M' (fmV rh tc C ow) x d pa ma rb pds mks cs U T (k8 (yF rh tc rk U T) rh.length T.length)->M' w=some (.L (chg f (yF rh tc rk U T) rh.length T.length))->(∀ c∈w::rb::cs,M c=none)->w≠rb->w∉cs->Q (.ref w) M') :
  d8 g D true "File.renew" [.ref x] M Q X:=by
 refine bd N bK2 (by k_extra"b") hD λcx p=>?_
 have l40:=F.l40;have zz:=Y.zz;k_extra"w";refine A.m (by k_extra"#") (Eh p.N (p.dd (by decide)) F A.rk Y.lu Y.gp Y.uz Y.tz (bN zz (by decide)) nz λu b cs k1 k2 k3 O k5 k6=>?_)
 rw[sS (cu Y.lu.symm) (cO _)] at O;have lb:(cs.map V.ref).length=T.length:=by rw[bQ,O.len,G8]
 k_extra"w";rename_i w H;have A1:∀ {L:List V},FlAt (upd u w (.L L)) (fmV rh tc C ow) x d pa ma ra pds mks rws U T (k8 f rh.length T.length):=A.sub (k1.trans (Sub.upd H));refine x2 p (ChJ (λo1 o2=>[some (.ref x),some (.ref b),some (.ref w),o1,o2]) (chg (yF rh tc rk U T) f rh.length) w u) (λ_ k_=>k_ none none rfl rfl) (λcx p hB i Z hJ=>?_) ?_
 ·k_extra"0"
  k_extra"K";have Z:i<T.length:=by exact pU lb Z
  refine a7 (O.get (H3 Z)) λa E ha'=>a7 (A.ro.get (H3 Z)) λc I Ja=>?_
  have Ja:=k1 _ _ Ja;have qa:(cs.map V.ref)[i]?=some (.ref a):=by rw[bW,E];rfl
  have qb:(rws.map V.ref)[i]?=some (.ref c):=by rw[bW,I];rfl
  have lr:(rwV (yF rh tc rk U T) rh.length i).length=rh.length:=sJ;k_extra"bE"
  k_extra"w";refine x2 p (ChJ (λ_ o2=>[some (.ref x),some (.ref b),some (.ref w),some (.int i),o2]) (λj=>chg (yF rh tc rk U T) f rh.length i++C2 (yF rh tc rk U T) f i j) w u) (λ_ k_=>k_ o1 o2 (by show _=upd u w (.L (chg (yF rh tc rk U T) f rh.length i++[]));rw[dC]) rfl) (λcx p hB j hj hJ2=>?_) ?_
  ·k_extra"0"
   have e0:(0:Int)+(j:Int)=j:=dF _;rw[e0];have hj:j<rh.length:=by exact pU lr hj
   k_extra"bE"
   k_extra"bi"
   k_extra"w";refine A1.rows (ItR.l (LookR.mk _ A1.hr (i8 i _ rfl qb (by exact T4 zz lb (by assumption)) ?_)))
   k_extra"bi"
   have hlen:(chg (yF rh tc rk U T) f rh.length i++C2 (yF rh tc rk U T) f i j).length<=10000:=by
    rw[cC];have h2:=wO (f:=yF rh tc rk U T) (g:=f) (y:=i) (m:=j);have:i*rh.length<=8*40:=nC (by exact Ft zz lb (by assumption)) l40
    exact ym l40 lr (by assumption) (vo (f:=yF rh tc rk U T) (g:=f) (m:=rh.length) (n:=i)) h2 this
   k_extra"w"
   ·rename_i q
    k_extra"bS"
   ·rename_i q
    k_extra"bT"
  ·k_extra"0"
   have I:(((rwV (yF rh tc rk U T) rh.length i).length:Int)-0).toNat=rh.length:=by rw[lr];exact D8 _
   rw[I];exact hJ (λ_ k_=>k_ _ _ (by rw[vJ]) rfl)
 ·k_extra"0"
  have I:(((cs.map V.ref).length:Int)-0).toNat=T.length:=by rw[lb];exact D8 _
  rw[I,Px];have Ma:=A1 (L:=chg f (yF rh tc rk U T) rh.length T.length);have s2:Sub M (upd u w (.L (chg f (yF rh tc rk U T) rh.length T.length))):=k1.trans (Sub.upd H);have f2:=d6 u w (.L (chg f (yF rh tc rk U T) rh.length T.length));have b2:=g9 (o:=.L (chg f (yF rh tc rk U T) rh.length T.length)) k3 H;have p2:=O.sub (Sub.upd (o:=.L (chg f (yF rh tc rk U T) rh.length T.length)) H);have n2:=k2.upd (a:=w) (uv (f:=f) (g:=yF rh tc rk U T) (m:=rh.length) (n:=T.length));have q2:w∉cs:=λq=>by refine a7 (O.has q) λz _ S=>?_;rw[H] at S;cases S
  have fb:w≠b:=(j8 k3 H).symm;generalize upd u w (.L (chg f (yF rh tc rk U T) rh.length T.length))=τ at Ma s2 f2 b2 p2 n2 ⊢;k_extra"w";refine ASet.mk d _ Ma.hx Ma.hd (show 4<=100 by decide) ?_
  rw[br8];k_extra"w";have P:∀ {a l},τ a=some (.L l)->upd τ d (.na (Q2 (fmV rh tc C ow) pa ma b)) a=some (.L l):=λe=>p8 e (r6 e Ma.hd (show(0:Nat)≠5 by decide))
  have nb:∀ {a:Addr},M a=none->a∉mks:=fun{a} e q=>by
   refine a7 (A.mb.has q) λz _ S=>?_
   rw[e] at S;cases S
  refine p.h (h _ w b cs (λc o q e=>?_) (n2.upd ?_) ⟨p8 Ma.hx (r6 Ma.hx Ma.hd (show(4:Nat)≠5 by decide)),d6 _ _ _,P Ma.hp,P Ma.hm,P b2,⟨A.pd.len,λE I=>p8 (Ma.pd.at' E I) (r6 (Ma.pd.at' E I) Ma.hd (show(2:Nat)≠5 by decide))⟩,⟨A.mb.len,λE I=>P (Ma.mb.at' E I)⟩,⟨O.len,λE I=>P (p2.at' E I)⟩,A.np,A.nm,A.a1,A.a2,nb k6,λc hc=>nb (k5 c hc)⟩ (P f2) (λc hc=>?_) fb q2)
  ·k_extra"bl";exact s2 _ _ e
  ·show nzL [.ref b,.ref ma,.ref pa,fmV rh tc C ow]=true
   refine v7 λv hv=>?_
   rcases bR.mp hv with q | hv
   ·rw[q];rfl
   rcases bR.mp hv with q | hv
   ·rw[q];rfl
   rcases bR.mp hv with q | hv
   ·rw[q];rfl
   rw[bV.mp hv];exact F.nz
  ·k_extra"bv"
   ·rw[q];exact(j4 k1 H)
   k_extra"bv"
   ·rw[q];exact k6
   exact k5 c hc
end
theorem O7{n:Nat}(h:f8 v 0 ((n:Int)-1)=true):∃ y:Nat,v=.int y/\y<n:=by
 refine f5 (t8 h) λi Ja Y Z=>?_;subst Ja
 refine d4 (dI Y) λy Ja=>?_;subst Ja
 exact⟨y,rfl,by exact cJ.mp (gR Z)⟩
theorem CZ{t:List Bool}:(t.map V.bool).set j (.bool b)=(t.set j b).map .bool:=map_set V.bool t j b
def Aft(M:Hp)(rh tc:List V)(C ow:Int)(rk:Int->Nat)(x d pa ma:Addr)(pds mks:List Addr)(f:Nat->Nat->Int)(c:Addr)(U:List (List (Str×Int)))(T:List (List Bool))(w:Addr)(M':Hp):Prop:=
 ∀ u:Prop,(∀ (q:Addr) (cs:List Addr) (P:e8 [d,c] M M') (E:NZ M') (A:FlAt M' (fmV rh tc C ow) x d pa ma q pds mks cs U T (k8 (yF rh tc rk U T) rh.length T.length)) (y:M' w=some (.L (chg f (yF rh tc rk U T) rh.length T.length)))
  (nw:∀ c∈w::q::cs,M c=none) (Z:w≠q) (S:w∉cs),u)->u
section
variable{g:G}{Q:V->Hp->Prop}{C:Int}{rk:Int->Nat}{x d:Addr}{T:List (List Bool)}{R:List (List V)}{fm:V}{f:Nat->Nat->Int}
theorem Ar(N:Nm g)(hD:16<=D)(F:FG rh tc C ow rk)(A:FlAt (upd M c o) (fmV rh tc C ow) x d pa ma ra pds mks rws y u (k8 f rh.length u.length))(Y:Yrs C y u)(nz:NZ (upd M c o))
  (h:∀ w M',Aft M rh tc C ow rk x d pa ma pds mks f c y u w M'->Q (.ref w) M'):d8 g D true "File.renew" [.ref x] (upd M c o) Q X:=
 Ov N hD F A Y nz λM' w Z cs E H I Ja P K L=>h w M' λz_ O=>O Z cs (λa S q e=>E a S (j9 λz=>q (by rw[z];exact .head _)) (by rw[e9 _ _ (λz=>q (by rw[z];exact .tail _ (.head _)))];exact e)) H I Ja (λa Ma=>(j3 (P a Ma)).2) K L
set_option tactic.hygienic true in
theorem uF(N:Nm g)(hD:17<=D)(F:FG rh tc C ow rk)(A:FlAt M (fmV rh tc C ow) x d pa ma ra pds mks rws U T (k8 f rh.length T.length))(nz:NZ M)(E:U.length=T.length)(zz:T.length<=8){w k:V}(okv:Ok M v)(I:Cld M w)(H:Ok M k)
  (hy:f8 v 0 ((T.length:Int)-1)=false->X "NoYear" M) (Ma:f8 v 0 ((T.length:Int)-1)=true->(x5 w&&f8 k (0-1000000000) 1000000000)=false->X "NoPaper" M)
  (Y:f8 v 0 ((T.length:Int)-1)=true->(x5 w&&f8 k (0-1000000000) 1000000000)=true->∀ (y:Nat) s i u c,v=.int y->w=.str s->k=.int i->m9 s=true->-1000000000<=i->i<=1000000000->U[y]?=some u->pds[y]?=some c->u.length<=1000/\Yrs C (U.set y (B7 u s i)) T/\∀ Ja M',Aft M rh tc C ow rk x d pa ma pds mks f c (U.set y (B7 u s i)) T Ja M'->Q (.ref Ja) M') :
  d8 g D true "File.put" [.ref x,v,w,k] M Q X:=by
 refine bd N bL2 (by k_extra"b") hD λcx p=>?_
 k_extra"U"
 k_extra"u"
 rw[lr] at q;k_extra"w";refine vy p.N (p.dd (by decide)) I ?_
 k_extra"w"
 ·rename_i K
  refine V4 p.N (p.dd (by decide)) H ?_
  k_extra"w"
  ·rename_i O
   k_extra"aW";clear okv;clear hy;clear I;clear H;subst qa
   refine a7 (uB K) λs qa P=>?_;subst qa
   refine f5 (t8 O) λi qa Z i1=>?_;subst qa
   have L:=bO (E▸hy');refine a7 (A.pd.get L) λc hc S=>?_
   obtain⟨z1,z2,z3⟩:=Y q (by rw[K,O];rfl) y s i _ c rfl rfl rfl P (Z) i1 L hc
   have hl:(dS (U[y]'(E▸hy'))).length<=10000:=by unfold dS;rw[bQ];exact Bh z1
   k_extra"aQ"
   k_extra"w";rw[Ra];refine(A.put L hc _).m (by k_extra"#") (Ar p.N (p.dd (by decide)) F (A.put L hc _) z2 (nz.upd cc3) λJa M' z=>?_)
   exact p.h (z3 Ja M' z)
  ·rename_i O
   exact p.x (Ma q (by rw[K,O];rfl))
 ·rename_i K
  exact p.x (Ma q (by rw[K];rfl))
set_option tactic.hygienic true in
theorem uX(N:Nm g)(hD:17<=D)(F:FG rh tc C ow rk)(A:FlAt M (fmV rh tc C ow) x d pa ma ra pds mks rws U T (k8 f rh.length T.length))(nz:NZ M)(Y:Yrs C U T){k:V}{b:Bool}(okv:Ok M v)(okk:Ok M k)
  (hy:f8 v 0 ((T.length:Int)-1)=false->X "NoYear" M) (Ma:f8 v 0 ((T.length:Int)-1)=true->f8 k 0 (C-1)=false->X "NoChoice" M)
  (H:f8 v 0 ((T.length:Int)-1)=true->f8 k 0 (C-1)=true->∀ (y j:Nat) t c,v=.int y->k=.int j->T[y]?=some t->mks[y]?=some c->∀ w M',Aft M rh tc C ow rk x d pa ma pds mks f c U (T.set y (t.set j b)) w M'->Q (.ref w) M') :
  d8 g D true "File.take" [.ref x,v,k,.bool b] M Q X:=by
 refine bd N ZJ (by k_extra"b") hD λcx p=>?_
 k_extra"U"
 have zz:=Y.zz;have c8:=F.c8;k_extra"Y"
 k_extra"aX"
 k_extra"w"
 ·rename_i K
  k_extra"cJ"
  refine f5 (t8 K) λj qa I L=>?_;subst qa
  refine d4 (dI I) λj qa=>?_;clear I;subst qa
  have ht:=bO hy';have Ja:=Y.tz _ (fL hy');refine a7 (A.mb.get (j:=y) (x:=(T[y]'hy').map .bool) (by rw[bW,ht];rfl)) λc O E=>?_
  have hl:((T[y]'hy').map V.bool).length=(T[y]'hy').length:=bQ _;refine A.marks (ItR.l (LookR.mk _ A.hm (i8 y (.ref c) rfl (by rw[bW,O];rfl) (P2 zz hy') ?_)))
  k_extra"w";rw[fU,CZ];have u:=A.take ht O ((T[y]'hy').set j b);have el:(T.set y ((T[y]'hy').set j b)).length=T.length:=dZ;refine u.m (by k_extra"#") ?_
  refine Ar p.N (p.dd (by decide)) F (el▸u) ⟨by rw[el];exact Y.lu,Y.gp,Y.uz,λS P=>?_,by rw[el];exact zz⟩ (nz.upd N2) λw M' z=>p.h (H q K y j _ c rfl rfl ht O w M' z)
  rcases fW P with z | z
  ·exact Y.tz _ z
  ·rw[z,dZ];exact Ja
 ·rename_i K
  exact p.x (Ma q K)
set_option tactic.hygienic true in
theorem Hj(N:Nm g)(hD:3<=D)(A:FlAt M fm x d pa ma ra pds mks rws U T (k8 f rh.length T.length))(zz:T.length<=8)(E:rh.length<=40){v:V}(okv:Ok M v)(hy:f8 v 0 ((T.length:Int)-1)=false->X "NoYear" M)
  (w:f8 v 0 ((T.length:Int)-1)=true->∀ (y:Nat) b,v=.int y->y<T.length->M b=none->Q (.ref b) (upd M b (.L (rwV f rh.length y)))):d8 g D true "File.values" [.ref x,v] M Q X:=by
 refine bd N NB (by k_extra"b") hD λcx p=>?_
 k_extra"U"
 k_extra"u"
 rw[lr] at q;k_extra"aW";subst qa
 refine a7 (A.ro.get (H3 hy')) λc O u=>?_
 have hl:(rwV f rh.length y).length=rh.length:=sJ;refine A.rows (ItR.l (LookR.mk _ A.hr (i8 y (.ref c) rfl (by rw[bW,O];rfl) (P2 zz hy') ?_)))
 k_extra"bJ";exact p.h (w q y b rfl hy' Y)
set_option tactic.hygienic true in
theorem uN(N:Nm g)(hD:3<=D)(A:FlAt M (fmV rh tc C ow) x d pa ma ra pds mks rws U T (k8 f rh.length T.length))(zz:T.length<=8)(w:rh.length<=40){k:V}(okv:Ok M v)(okk:Ok M k)(hy:f8 v 0 ((T.length:Int)-1)=false->X "NoYear" M)(hl:f8 v 0 ((T.length:Int)-1)=true->f8 k 0 ((rh.length:Int)-1)=false->X "NoLine" M)
  (F:f8 v 0 ((T.length:Int)-1)=true->f8 k 0 ((rh.length:Int)-1)=true->∀ (y l:Nat),v=.int y->k=.int l->Q (.int (f y l)) M):d8 g D true "File.value" [.ref x,v,k] M Q X:=by
 refine bd N UL (by k_extra"b") hD λcx p=>?_
 k_extra"U"
 k_extra"u"
 k_extra"aX"
 k_extra"w"
 ·rename_i K
  k_extra"cJ"
  refine a7 (O7 K) λl qa u=>?_;subst qa
  refine a7 (A.ro.get (H3 hy')) λc O E=>A.rows (ItR.l (LookR.mk _ A.hr (i8 y (.ref c) rfl (by rw[bW,O];rfl) (P2 zz hy') ?_)))
  k_extra"w";exact i8 l _ rfl (pZ u) (bN (dK u) (bN w (by decide))) (p.h (F q K y l rfl rfl))
 ·rename_i K
  exact p.x (hl q K)
end
theorem G5:(dS u).map (·.1)=u.map (·.1):=by unfold dS;rw[fK];rfl
section
variable{g:G}{Q:V->Hp->Prop}{C:Int}{rk:Int->Nat}{x d:Addr}{T:List (List Bool)}{R:List (List V)}{fm:V}{f:Nat->Nat->Int}
theorem Dh(N:Nm g)(hD:1<=D)(F:FG rh tc C ow rk){n:Nat}(A:FlAt M (fmV rh tc C ow) x d pa ma ra pds mks rws U T (k8 f rh.length n))(Z:n<=8)(h:Q (.int ((cY n).map λy=>f y ow.toNat).sum) M):d8 g D true "File.owed" [.ref x] M Q X:=by
 refine bd N Nv (by k_extra"b") hD λcx p=>?_
 have I:rws.length=n:=by rw[A.ro.len,G8]
 have H:=F.l40;have L:=F.o0;have P:=F.o1;k_extra"w";refine A.rows (Look.mk _ A.hr (CLoop.g p (λw E u=>M=u/\∃ d1 d2,rws=d1++d2/\w=d2.map .ref/\E=((cY d1.length).map λy=>f y ow.toNat).map .int) (by rw[bQ];exact Bj Z I) ⟨rfl,[],rws,rfl,rfl,rfl⟩ (λcx p v w E Ja O=>?_) ?_))
 ·clear O;rintro _ hh;k_extra"4"
  refine⟨A.hr,?_⟩;cases d2 with
  | nil=>cases e2
  | cons c d2=>
   k_extra"8";rw[qb] at Ja e2
   have hc:rws[d1.length]?=some c:=by rw[e1,eX (cO _),ji];rfl
   have q:=(cj.mp hc).1;have S:=A.ro.at' hc (H3 (I▸q));k_extra"w";refine A.bc ?_;k_extra"w";exact i8 ow.toNat _ (dN L).symm (pZ (W6 L P)) (Ih H P) (Ja ⟨rfl,d1++[c],d2,by rw[e1,dB];rfl,rfl,by rw[cC,iT,gJ,cG,cG];rfl⟩)
 ·rintro E _ hh;k_extra"4"
  refine⟨A.hr,λa Ma=>?_⟩
  k_extra"E"
  rw[dC] at e1;k_extra"w";refine SumL.mk _ (d6 _ _ _) ?_;rw[<- e1,I];exact p.r (Sub.upd Ma) h
set_option tactic.hygienic true in
theorem zU(N:Nm g)(hD:3<=D)(A:FlAt M fm x d pa ma ra pds mks rws U T (k8 f rh.length T.length))(Y:Yrs C U T)(P:C<=8)(u4:∀ u∈U,u.length<=4)(okv:Ok M v)(hy:f8 v 0 ((T.length:Int)-1)=false->X "NoYear" M)
  (O:f8 v 0 ((T.length:Int)-1)=true->∀ (y:Nat) u t (ps:List (Str×Int)) E I,v=.int y->U[y]?=some u->T[y]?=some t->M E=none->upd M E (.L (ps.map tS)) I=none->ps.Perm u->ps.Pairwise ltP->Q (.tup [.ref E,.ref I]) (upd (upd M E (.L (ps.map tS))) I (.L (t.map .bool)))):d8 g D true "File.told" [.ref x,v] M Q X:=by
 refine bd N J9 (by k_extra"b") hD λcx p=>?_
 k_extra"U"
 have zz:=Y.zz;k_extra"Y"
 rw[lr] at q;k_extra"aW";subst qa
 have hu:=bO (Y.lu▸hy');have ht:=bO hy';have mu:=cA hu;have S:=Y.tz _ (cA ht);refine a7 (A.pd.get hu) λc hc F=>a7 (A.mb.get (j:=y) (x:=(T[y]'hy').map .bool) (by rw[bW,ht];rfl)) λe L Ma=>?_
 k_extra"aQ"
 refine SrtI.mk _ F (Srtp.mk (G5▸(Y.gp _ mu).nd) (u4 _ mu) λE ps w H Ja=>?_)
 have hl:((T[y]'hy').map V.bool).length<=10000:=by rw[bQ];lia
 refine(A.sub (Sub.upd w)).marks (ItR.l (LookR.mk _ (A.sub (Sub.upd w)).hm (i8 y (.ref e) rfl (by rw[bW,L];rfl) (P2 zz hy') ?_)))
 k_extra"w";rename_i I pO;exact p.h (O q y _ _ ps E I rfl hu ht w pO H Ja)
end
def DcJ(τ:Hp)(i:Nat)(acc:List V)(M':Hp):Prop:=
 ∀ c:Prop,(∀ (L:List Addr) (q:acc=L.map .ref) (P:Sub τ M') (w:NZ M') (u:DsAt M' L (bY i [])) (nd:L.Nodup) (nw:∀ b∈L,τ b=none),c)->c
def MkJ(τ:Hp)(x:List V)(i:Nat)(acc:List V)(M':Hp):Prop:=
 ∀ c:Prop,(∀ (L:List Addr) (q:acc=L.map .ref) (P:Sub τ M') (w:NZ M') (u:PAt M' L (bY i x)) (nd:L.Nodup) (nw:∀ b∈L,τ b=none),c)->c
theorem Bf(h:bs.Nodup)(Y:b∉bs):(bs++[b]).Nodup:=eN.mpr ⟨h,by simp,λx c y L q=>by rw[bV.mp L] at q;exact Y (q▸c)⟩
theorem xE{b:Addr}{P:Addr->Prop}(h:∀ x∈bs,P x)(Y:P b):∀ x∈bs++[b],P x:=λx hx=>by
 k_extra"aD"
 ·exact h x q
 ·rw[bV.mp q];exact Y
theorem PAt.no(h:PAt M cs c)(Y:M b=none):b∉cs:=λq=>by refine a7 (h.has q) λz N e=>?_;rw[Y] at e;cases e
theorem DsAt.no(h:DsAt M cs U)(Y:M b=none):b∉cs:=λq=>by
 obtain⟨j,c,rfl⟩:=ig q;have z:=h.at' (bO c) (bO (h.len▸c));rw[Y] at z;cases z
theorem DsAt.snoc{M:Hp}{cs:List Addr}{U:List (List (Str×Int))}{c:Addr}{x:List (Str×Int)}(h:DsAt M cs U)(e:M c=some (.ds (dS x))):DsAt M (cs++[c]) (U++[x]):=
 ⟨by rw[cC,cC,h.len];rfl,λe1 e2=>by
  rcases R7 e1 with ⟨q1,e1⟩ | ⟨q1,rfl⟩
  ·k_extra"ao"
   ·exact h.at' e1 e2
   ·have:=h.len;exact Cp q1 q2 this
  ·clear e1;k_extra"ao"
   ·have:=h.len;exact zP q1 q2 this
   ·exact e⟩
theorem MK{n:Nat}:(bY n [V.bool false]).flatten=(bY n false).map .bool:=by
 induction n with
 | zero=>rfl
 | succ n ih=>rw[jd,jn,ih];rfl
section
variable{g:G}{n:Nat}{QQ:VP}{K:KT}{s:List V}{J:Lo}
set_option tactic.hygienic true in
theorem KZ{m:Nat}(p:Pk pq tab g n QQ XX cx)(H:m<=8)(nz:NZ τ)(h:∀ M' b bs,Sub τ M'->NZ M'->DsAt M' bs (bY m [])->bs.Nodup->(∀ c∈b::bs,τ c=none)->M' b=some (.L (bs.map .ref))->K cx (.ref b::s) J M'):CLoop ((IC.e (.dic0 true)).w true) K [] (m6 0 1 ((m:Int)-0).toNat) (λ_=>True) cx s J τ:=by
 refine Y1 p (DcJ τ) (Ab H) (λ_ E=>E [] rfl (Sub.refl _) nz ⟨rfl,λe=>by cases e⟩ .nil (λb Y=>by cases Y)) (λcx p i A Ja F I=>?_) ?_
 ·rintro M' w;k_extra"cS";rintro bs rfl P y u nd nw
  k_extra"bJ";refine F (λ_ E=>E (bs++[b]) (by rw[cG];rfl) (P.trans (Sub.upd Y)) (y.upd rfl) ?_ (Bf nd (u.no Y)) (xE nw (j4 P Y)))
  rw[nR];exact(u.sub (Sub.upd Y)).snoc (d6 _ _ _)
 ·rintro A M' w;k_extra"cS";rintro bs rfl P y u nd nw b Y
  rw[D8] at u;refine h _ b bs (P.trans (Sub.upd Y)) (y.upd D3) (u.sub (Sub.upd Y)) nd (λc hc=>?_) (d6 _ _ _)
  rcases bR.mp hc with q | q
  ·rw[q];exact j4 P Y
  ·exact nw c q
end
theorem qy{n:Str}(h:(c.map (·.1)).contains n=false):A8 c n v=(n,v)::c:=by
 unfold A8;rw[jX.mpr λp Ma=>bne_iff_ne.mpr λe=>by rw[jH.mpr (e▸gC Ma)] at h;cases h]
section
variable{g:G}{n:Nat}{QQ:VP}{K:KT}{s:List V}{J:Lo}
theorem vU{B:KT}{H:List Nat}{x:List V}(p:Pk pq tab g n QQ XX cx)(Ja:m<=8)(nz:NZ τ)(U:nzO (.L x)=true)
  (Z:∀ T,Pb pq tab n T->∀ v M',(∀ L b S,Sub M' L->(NZ M'->NZ L)->L b=none->T.Q (.ret (.ref b)) S (upd L b (.L x)))->B T [] (some v::s7 J H) M')
  (h:∀ M' b bs,Sub τ M'->NZ M'->PAt M' bs (bY m x)->bs.Nodup->(∀ c∈b::bs,τ c=none)->b∉bs->M' b=some (.L (bs.map .ref))->K cx (.ref b::s) J M'):CLoop B K H (m6 0 1 ((m:Int)-0).toNat) (λz_=>True) cx s J τ:=by
 refine Y1 p (MkJ τ x) (Ab Ja) (λz_ F=>F [] rfl (Sub.refl _) nz PAt.nil .nil (λb Y=>by cases Y)) (λcx p i A R I O=>?_) ?_
 ·rintro M' w;k_extra"cS";rintro bs rfl P E u nd nw
  refine Z cx p _ M' λL b S y Ma Y=>I (λz_ F=>F (bs++[b]) (by rw[cG];rfl) ((P.trans y).trans (Sub.upd Y)) ((Ma E).upd U) ?_ (Bf nd ((u.sub y).no Y)) (xE nw (j4 (P.trans y) Y)))
  rw[nR];exact((u.sub y).sub (Sub.upd Y)).snoc (d6 _ _ _)
 ·rintro A M' w;k_extra"cS";rintro bs rfl P E u nd nw b Y
  rw[D8] at u;refine h _ b bs (P.trans (Sub.upd Y)) (E.upd D3) (u.sub (Sub.upd Y)) nd (λc hc=>?_) (u.no Y) (d6 _ _ _)
  rcases bR.mp hc with q | q
  ·rw[q];exact j4 P Y
  ·exact nw c q
end
theorem xq{C:Int}{n:Nat}(w:0<=C)(y:n<=8):Yrs C (bY n []) (bY n (bY C.toNat false)) where
 lu:=by rw[dG,dG]
 gp u hu:=by rw[(gG.mp hu).2];exact⟨.nil,λq c=>(by cases c),λq c=>(by cases c),λq c=>(by cases c)⟩
 uz u hu:=by rw[(gG.mp hu).2];exact cP _
 tz t ht:=by rw[(gG.mp ht).2,dG];exact dN w
 zz:=by rw[dG];exact y
theorem G9{d:Addr}(h:e8 [d] M M')(u:M' d=some o)(e:M' c=none):M c=none:=by
 cases q:M c with
 | none=>rfl
 | some U=>
  by_cases z:c=d
  ·rw[z,u] at e;cases e
  ·rw[h c U (j9 z) q] at e;cases e
theorem L0{d:Addr}(u:M d=some (.na q))(e:M a=some (.L l)):upd M d (.na c) a=some (.L l):=p8 e (r6 e u (show(0:Nat)≠5 by decide))
theorem PAt.d{d:Addr}(y:M d=some (.na w))(h:PAt M cs q):PAt (upd M d (.na c)) cs q:=⟨h.len,λE u=>L0 y (h.at' E u)⟩
theorem DsAt.d{d:Addr}(w:M d=some (.na u))(h:DsAt M cs U):DsAt (upd M d (.na c)) cs U:=⟨h.len,λE q=>p8 (h.at' E q) (r6 (h.at' E q) w (show(2:Nat)≠5 by decide))⟩
theorem rW{d:Addr}{x:Str}(u:M d=some (.na q))(h:M a=some (.ob x e)):upd M d (.na c) a=some (.ob x e):=p8 h (r6 h u (show(4:Nat)≠5 by decide))
theorem wB{d:Addr}(u:M d=some (.na q))(h:upd M d (.na c) a=none):M a=none:=(j3 h).2
section
variable{g:G}{Q:V->Hp->Prop}{C:Int}{rk:Int->Nat}{x d:Addr}
set_option tactic.hygienic true in
theorem bO3(N:Nm g)(hD:16<=D)(F:FG rh tc C ow rk){n:Nat}(h1:1<=n)(h8:n<=8)(hx:M x=some (.ob "File" d))(hd:M d=some (.na []))(nz:NZ M)
  (h:∀ M' H O L E w I,FlAt M' (fmV rh tc C ow) x d H O L E w I (bY n []) (bY n (bY C.toNat false)) (k8 (yF rh tc rk (bY n []) (bY n (bY C.toNat false))) rh.length n)->e8 [d] M M'->NZ M'->(∀ c∈H::O::L::(E++(w++I)),M c=none)->Q .none M') :
  d8 g D true "File.__init__" [.ref x,fmV rh tc C ow,.int n] M Q X:=by
 refine bdn N ZG (by k_extra"b") hD λcx p pn=>?_
 have c0:=F.c0;have c8:=F.c8;have hf:∀ l:List (Str×V),(∀ q∈l,Internal.nz q.2=true)->nzO (.na l)=true:=λl hl=>v7 λv hv=>by
  refine a7 (cD.mp hv) λq hq qa=>?_;subst qa;exact hl q hq
 k_extra"w";refine G1 p.N (p.dd (by decide)) (by intro _ e;cases e) ?_
 rw[r9 (by exact cZ.mpr h1) (by exact cZ.mpr h8)]
 k_extra"w";refine ASet.mk d _ hx hd (by decide) ?_
 rw[qy rfl];have nz0:=nz.upd (a:=d) (hf [("form",fmV rh tc C ow)] λq hq=>by rw[bV.mp hq];exact F.nz)
 k_extra"w";refine KZ p h8 nz0 λY H E s1 n1 p1 d1 w1 Ma=>?_
 have w1:∀ c∈H::E,M c=none:=λc hc=>wB hd (w1 c hc)
 have y:=s1 _ _ (d6 _ _ _);have R:=s1 _ _ (rW hd hx);have t1:e8 [d] M Y:=λc o q e=>s1 _ _ (by rw[e9 _ _ (λz=>q (by rw[z];exact .head _))];exact e)
 clear s1;k_extra"w";refine ASet.mk d _ R y (show 1<=100 by decide) ?_
 rw[qy (show[bM "form"].contains (bM "papers")=false by k_extra"#")]
 have nz1:=n1.upd (a:=d) (hf [("papers",.ref H),("form",fmV rh tc C ow)] λq hq=>by
  rcases bR.mp hq with z | z
  ·rw[z];rfl
  ·rw[bV.mp z];exact F.nz)
 k_extra"w";refine vU (x:=(bY C.toNat false).map .bool) p h8 nz1 N2 (λcx p v M' k=>?_) λS O w s2 n2 p2 d2 w2 mm hma=>?_
 ·k_extra"w"
  k_extra"br"
 have w2:∀ c∈O::w,Y c=none:=λc hc=>wB y (w2 c hc)
 have u:=s2 _ _ (d6 _ _ _);have Z:=s2 _ _ (rW y R);have U:=s2 _ _ (L0 y Ma);have p12:=(p1.d y).sub s2;have t2:e8 [d] Y S:=λc o q e=>s2 _ _ (by rw[e9 _ _ (λz=>q (by rw[z];exact .head _))];exact e)
 clear s2;k_extra"w";refine ASet.mk d _ Z u (show 2<=100 by decide) ?_
 rw[qy (show[bM "papers",bM "form"].contains (bM "marks")=false by k_extra"#")]
 have nz2:=n2.upd (a:=d) (hf [("marks",.ref O),("papers",.ref H),("form",fmV rh tc C ow)] λq hq=>by
  rcases bR.mp hq with z | z
  ·rw[z];rfl
  k_extra"X"
  ·rw[z];rfl
  ·rw[bV.mp z];exact F.nz)
 have A:RkAt (upd S d (.na [("marks",.ref O),("papers",.ref H),("form",fmV rh tc C ow)])) (fmV rh tc C ow) x d H O [("marks",.ref O),("papers",.ref H),("form",fmV rh tc C ow)] E w (bY n []) (bY n (bY C.toNat false)):=
  ⟨rW u Z,d6 _ _ _,.tail _ (.head _),.tail _ (.tail _ (.head _)),.head _,L0 u U,L0 u hma,p12.d u,by rw[iz];exact p2.d u⟩
 have Ja:=xq (n:=n) c0 h8;k_extra"w";refine OAt.mk d _ A.hx A.hd (show[bM "marks",bM "papers",bM "form"].contains (bM "reckon")=false by k_extra"#") (Eh p.N (p.dd (by decide)) F A Ja.lu Ja.gp Ja.uz Ja.tz (bN Ja.zz (by decide)) nz2 λM3 L I s3 n3 hra p3 T wr=>?_)
 rw[dG,sS (by rw[dG];exact cO _) (by rw[dG];exact cO _)] at p3
 have T:∀ c∈L::I,S c=none:=λc hc=>wB u (by
  rcases bR.mp hc with q | q
  ·exact q▸wr
  ·exact T c q)
 k_extra"w";refine ASet.mk d _ (s3 _ _ A.hx) (s3 _ _ A.hd) (show 3<=100 by decide) ?_
 rw[qy (show[bM "marks",bM "papers",bM "form"].contains (bM "rows")=false by k_extra"#")]
 have P:=s3 _ _ A.hd;refine pn (Sub.refl _) (h _ H O L E w I ⟨rW P (s3 _ _ A.hx),d6 _ _ _,L0 P (s3 _ _ A.hp),L0 P (s3 _ _ A.hm),L0 P hra,(A.pd.sub s3).d P,(A.mb.sub s3).d P,p3.d P,d1,d2,λq=>?_,mm,p2.no (T L (.head _)),λc hc=>p2.no (T c (.tail _ hc))⟩ (λc o q e=>?_) (n3.upd (hf _ λq hq=>?_)) λc hc=>?_)
 ·rw[w2 H (.tail _ q)] at Ma;cases Ma
 ·k_extra"bl"
  exact s3 _ _ (by rw[e9 _ _ (λz=>q (by rw[z];exact .head _))];exact t2 _ _ q (t1 _ _ q e))
 ·rcases bR.mp hq with z | z
  ·rw[z];rfl
  k_extra"X"
  ·rw[z];rfl
  k_extra"X"
  ·rw[z];rfl
  ·rw[bV.mp z];exact F.nz
 ·k_extra"bv"
  ·rw[q];exact w1 H (.head _)
  k_extra"bv"
  ·rw[q];exact G9 t1 y (w2 O (.head _))
  k_extra"bv"
  ·rw[q];exact G9 t1 y (G9 t2 u (T L (.head _)))
  rcases cz.mp hc with q | hc
  ·exact w1 c (.tail _ q)
  k_extra"co"
  ·exact G9 t1 y (w2 c (.tail _ q))
  ·exact G9 t1 y (G9 t2 u (T c (.tail _ q)))
end
noncomputable def F9:List Str:=[bM "NoYear",bM "NoPaper",bM "NoChoice",bM "NoLine"]
theorem pO{x:Str}{ys E:List Str}(c:x∈F9)(h:∀ x∈F9,ys.contains x=false->E.contains x=true):ys.contains x=false->E.contains x=true:=h x c
theorem Kw:∀ x∈F9,b2i (([]:List Str).contains x)+b2i (([]:List Str).contains x)+b2i (([]:List Str).contains x)+b2i (([]:List Str).contains x)+b2i ([bM "NoPaper"].contains x)+b2i ([bM "NoYear"].contains x)+b2i ([bM "NoLine"].contains x)+b2i ([bM "NoChoice"].contains x)+b2i (([]:List Str).contains x)=1:=by k_extra"#"
class inductive Atm:V->Prop
 | none:Atm .none
 | bool (b:Bool):Atm (.bool b)
 | int (i:Int):Atm (.int i)
 | str {x:Str} (h:x.length<=10000):Atm (.str x)
theorem Atm.cld(h:Atm v)(M:Hp):Cld M v:=by
 cases h with
 | none=>exact .none
 | bool b=>exact .bool b
 | int i=>exact .int i
 | str h=>exact .str h
theorem Atm.nz(h:Atm v):Internal.nz v=true:=by cases h<;>rfl
structure Bd(v:V)(n:Int):Prop where
 no:f8 v 0 (n-1)=false
 cl:Atm v
inductive BadD(n m:Nat)(C:Int):V->Str->Str->Prop
 | putY {y w k:V} (hy:Bd y n) (cw:Atm w) (ck:Atm k):BadD n m C (.tup [.str "put",y,w,k]) "year" "NoYear"
 | bK {y w k:V} (hy:f8 y 0 ((n:Int)-1)=true) (cy:Atm y) (hp:(x5 w&&f8 k (0-1000000000) 1000000000)=false) (cw:Atm w) (ck:Atm k):BadD n m C (.tup [.str "put",y,w,k]) "paper" "NoPaper"
 | bI {y k:V} {b:Bool} (hy:Bd y n) (ck:Atm k):BadD n m C (.tup [.str "take",y,k,.bool b]) "year" "NoYear"
 | bx {y k:V} {b:Bool} (hy:f8 y 0 ((n:Int)-1)=true) (cy:Atm y) (hk:Bd k C):BadD n m C (.tup [.str "take",y,k,.bool b]) "choice" "NoChoice"
 | valY {y k:V} (hy:Bd y n) (ck:Atm k):BadD n m C (.tup [.str "value",y,k]) "year" "NoYear"
 | valL {y k:V} (hy:f8 y 0 ((n:Int)-1)=true) (cy:Atm y) (hk:Bd k m):BadD n m C (.tup [.str "value",y,k]) "line" "NoLine"
 | bL {y:V} (hy:Bd y n):BadD n m C (.tup [.str "values",y]) "year" "NoYear"
 | bC {y:V} (hy:Bd y n):BadD n m C (.tup [.str "told",y]) "year" "NoYear"
theorem r7{P:Prop}(h:b=false)(k:b=true):P:=tf (h.symm.trans k)
section
variable{g:G}{Q:V->Hp->Prop}{C:Int}{rk:Int->Nat}{x d:Addr}{T:List (List Bool)}{f:Nat->Nat->Int}
theorem cB6:True:=by
 k_with"s"=>refine LookX.mk _ (by with_reducible assumption) (HitB.mk _ (λe=>e) (pO (by with_reducible assumption) (by k_extra"#")) ?_)
 trivial
set_option tactic.hygienic true in
theorem aY7(N:Nm g)(hD:1<=D)(Ma:M a=some (.ex e))(c:e∈F9)(h:Q (.bool true) M):d8 g D false "_law_alone" [.ref a] M Q X:=by
 refine bd N LQ (by k_extra"b") hD λcx p=>?_
 k_extra"w"
 ·rename_i q
  exact p.b ((by k_extra"#":∀ x∈F9,F9.contains x=true) e c) h
 ·rename_i q
  exact absurd (Kw e c) q
theorem Bw(N:Nm g)(hD:18<=D)(F:FG rh tc C ow rk)(A:FlAt M (fmV rh tc C ow) x d pa ma ra pds mks rws U T (k8 f rh.length T.length))(nz:NZ M)(Y:Yrs C U T)(u4:∀ u∈U,u.length<=4)(B:BadD T.length rh.length C dd w e)(h:X e M):d8 g D true "_law_told" [.ref x,dd] M Q X:=by
 k_extra"bg"
 cases B with
 | putY L c y=>
  k_extra"w";exact A.m (by k_extra"#") (uF p.N (p.dd (by decide)) F A nz Y.lu Y.zz (L.cl.cld M).ok (c.cld M) (y.cld M).ok (λj=>p.x h) (λq j=>r7 L.no q) λq=>r7 L.no q)
 | bK L E Ma c y=>
  k_extra"w";exact A.m (by k_extra"#") (uF p.N (p.dd (by decide)) F A nz Y.lu Y.zz (E.cld M).ok (c.cld M) (y.cld M).ok (λq=>r7 q L) (λj j=>p.x h) λj q=>r7 Ma q)
 | bI L y=>
  k_extra"w";exact A.m (by k_extra"#") (uX p.N (p.dd (by decide)) F A nz Y (L.cl.cld M).ok (y.cld M).ok (λj=>p.x h) (λq j=>r7 L.no q) λq=>r7 L.no q)
 | bx L E K=>
  k_extra"w";exact A.m (by k_extra"#") (uX p.N (p.dd (by decide)) F A nz Y (E.cld M).ok (K.cl.cld M).ok (λq=>r7 q L) (λj j=>p.x h) λj q=>r7 K.no q)
 | valY L y=>
  k_extra"w";exact A.m (by k_extra"#") (uN p.N (p.dd (by decide)) A Y.zz F.l40 (L.cl.cld M).ok (y.cld M).ok (λj=>p.x h) (λq j=>r7 L.no q) λq=>r7 L.no q)
 | valL L E K=>
  k_extra"w";exact A.m (by k_extra"#") (uN p.N (p.dd (by decide)) A Y.zz F.l40 (E.cld M).ok (K.cl.cld M).ok (λq=>r7 q L) (λj j=>p.x h) λj q=>r7 K.no q)
 | bL L=>
  k_extra"w";exact A.m (by k_extra"#") (Hj p.N (p.dd (by decide)) A Y.zz F.l40 (L.cl.cld M).ok (λj=>p.x h) λq=>r7 L.no q)
 | bC L=>
  k_extra"w";exact A.m (by k_extra"#") (zU p.N (p.dd (by decide)) A Y F.c8 u4 (L.cl.cld M).ok (λj=>p.x h) λq=>r7 L.no q)
end
def Eb:ISs:=(.c1 (.ret (.itm (.v 10) (.nx .a (.n 9)))))
def Eu:ISs:=(.cons (.asg 10 (.bin .Add (.v 10) (.L (.c3 (.L (.c2 (.tup (.c3 (.z "value") .g .i)) (.z "line"))) (.L (.c2 (.tup (.c2 (.z "values") .f)) (.z "year"))) (.L (.c2 (.tup (.c2 (.z "told") .f)) (.z "year"))))))) (.stop Eb))
def Ac:ISs:=(.cons (.asg 10 (.bin .Add (.v 10) (.L (.c2 (.L (.c2 (.tup (.c4 (.z "take") .g .j (.k (.bool true)))) (.z "choice"))) (.L (.c2 (.tup (.c3 (.z "value") .f .i)) (.z "year"))))))) (.stop Eu))
def yX:ISs:=(.cons (.asg 10 (.bin .Add (.v 10) (.L (.c2 (.L (.c2 (.tup (.c4 (.z "put") .g (.itk .e 0) .l)) (.z "paper"))) (.L (.c2 (.tup (.c4 (.z "take") .f .j (.k (.bool true)))) (.z "year"))))))) (.stop Ac))
def yh:ISs:=(.cons (.asg 10 (.L (.c2 (.L (.c2 (.tup (.c4 (.z "put") .f (.itm .h (.nx .a (.n 2))) .l)) (.z "year"))) (.L (.c2 (.tup (.c4 (.z "put") .g (.itk .h 0) (.n 5))) (.z "paper")))))) (.stop yX))
def YT:ISs:=(.cons (.asg 4 (.pick (.c6 (.neg (.n 1)) .d (.bin .Add .d (.nx .a (.pw 6 1000000))) (.k .none) (.k (.bool true)) (.z "0")) (.nx .a (.n 6)))) (.cons (.asg 5 (.nx .a .d)) (.cons (.asg 6 (.L (.c2 (.pick (.c7 (.z "A") (.z "") (.z "abcdefghi") (.k .none) (.z "a1") (.z "a_") (.z "{")) (.nx .a (.n 7))) (.itk .e 0)))) (.cons (.asg 7 (.pick (.c6 (.itk .b 0) (.neg (.n 1)) (.k .none) (.bin .Add (.itk .b 0) (.n 9)) (.k (.bool true)) (.z "0")) (.nx .a (.n 6)))) (.cons (.asg 8 (.pick (.c5 (.itk .b 2) (.neg (.n 1)) (.k .none) (.k (.bool true)) (.bin .Add (.itk .b 2) (.pw 6 1000000))) (.nx .a (.n 5)))) (.cons (.asg 9 (.pick (.c4 (.bin .Add (.pw 9 1000000000) (.n 1)) (.k .none) (.k (.bool true)) (.z "1")) (.nx .a (.n 4)))) (.stop yh)))))))
theorem VN:f6 tab pq "_law_wrong" 74 11 4 YT=true:=by k_extra"#"
def Zy:ISs:=(.c4 (.asg 4 (.nx .a .d)) (.iff (.and (.cmp .Eq (.nx .a (.n 4)) (.n 0)) (.cmp .Gt (.itk .b 2) (.n 0))) (.c1 (.ret (.tup (.c4 (.z "take") .f (.nx .a (.itk .b 2)) (.cmp .Eq (.nx .a (.n 2)) (.n 1)))))) .nil) (.asg 5 (.pick (.c2 (.bin .Sub (.nx .a (.n 5)) (.n 2)) (.call "_law_number" (.c1 .a))) (.nx .a (.n 2)))) (.ret (.tup (.c4 (.z "put") .f (.itm .e (.nx .a (.min (.n 4) (.len .e)))) .g))))
theorem cm6:f6 tab pq "_law_deed" 75 6 4 Zy=true:=by k_extra"#"
def Tr:ISs:=(.c1 (.iff (.cmp .Eq (.itk .d 0) (.z "take")) (.c1 (.aU (.itm .b (.itk .d 1)) (.itk .d 2) (.itk .d 3))) (.c2 (.bh 3 [2] (.e (.itm .a (.itk .d 1))) (.t (.cmp .NotEq (.itk .a 0) (.itk .b 2)) .a)) (.aU .a (.itk .d 1) (.sortp (.bin .Add .e (.L (.c1 (.tup (.c2 (.itk .d 2) (.itk .d 3)))))))))))
theorem Lq:f6 tab pq "_law_noted" 76 4 3 Tr=true:=by k_extra"#"
def bV3:ISs:=(.c1 (.iff (.cmp .Eq .d (.n 0)) (.c1 (.expr (.append .a (.L (.c2 .b (.list .b)))))) (.c1 (.iff (.cmp .Eq .d (.n 1)) (.c1 (.expr (.append .b (.n 7)))) (.c1 (.expr (.insert .b (.n 0) (.n 7))))))))
theorem WR:f6 tab pq "_law_kept" 77 3 3 bV3=true:=by k_extra"#"
def Sq:ISs:=(.cons (.asg 5 (.bin .Mod (.bin .FloorDiv .d (.n 4)) (.len (.itk .e 0)))) (.c9 (.asg 6 (.bin .Mod (.bin .FloorDiv .d (.n 64)) (.len (.itm (.itk .e 2) .g)))) (.iff (.cmp .Eq (.bin .Mod .d (.n 4)) (.n 0)) (.c2 (.asg 7 (.aC "File" "value" "File.value" .a (.c2 .g .h))) (.ret (.and (.call "_law_whole" (.c1 .i)) (.cmp .Eq .i (.itm (.itm (.itk .e 2) .g) .h))))) .nil) (.iff (.cmp .Eq (.bin .Mod .d (.n 4)) (.n 1)) (.c4 (.asg 7 (.aC "File" "values" "File.values" .a (.c1 .g))) (.iff (.or (.not (.of (.isi .i .list))) (.cmp .NotEq .i (.itm (.itk .e 2) .g))) (.c1 (.ret (.k (.bool false)))) .nil) (.expr (.call "_law_kept" (.c3 .b .i (.bin .Mod (.bin .FloorDiv .d (.n 4096)) (.n 3))))) (.ret (.k (.bool true)))) .nil) (.iff (.cmp .Eq (.bin .Mod .d (.n 4)) (.n 2)) (.c2 (.asg 7 (.aC "File" "owed" "File.owed" .a .nil)) (.ret (.and (.call "_law_whole" (.c1 .i)) (.cmp .Eq .i (.sum (.comp [4] (.e (.itk .e 2)) (.e (.itm .a .b)))))))) .nil) (.asg 7 (.aC "File" "told" "File.told" .a (.c1 .g))) (.iff (.or (.not (.of (.isi .i .tuple))) (.cmp .NotEq .i (.tup (.c2 (.itm (.itk .e 0) .g) (.itm (.itk .e 1) .g))))) (.c1 (.ret (.k (.bool false)))) .nil) (.expr (.call "_law_kept" (.c3 .b (.itk .i 0) (.bin .Mod (.bin .FloorDiv .d (.n 4096)) (.n 3))))) (.expr (.call "_law_kept" (.c3 .b (.itk .i 1) (.bin .Mod (.bin .FloorDiv .d (.n 12288)) (.n 3))))) (.ret (.k (.bool true)))))
theorem bb6:f6 tab pq "_law_looked" 78 8 5 Sq=true:=by k_extra"#"
def Aw:ISs:=(.c2 (.aH (.v 16) (.r1 (.nx .e (.n 5))) (.c2 (.asg 17 (.nx .e (.n 2))) (.iff (.not (.of (.call "_law_looked" (.c5 (.itm .a (.v 17)) .d (.nx .e (.pw 6 1000000)) (.itm .b (.v 17)) (.itk .f 3))))) (.c1 (.ret (.k (.bool false)))) .nil))) (.ret (.k (.bool true))))
def Ia:ISs:=(.c6 (.asg 13 (.call "_law_all" (.c4 .g .h (.itk .j 0) (.itk .j 1)))) (.asg 14 (.call "_law_changed" (.c2 (.itk .j 2) (.v 13)))) (.asg 15 (.call "_law_told" (.c2 (.itm .a .i) (.v 12)))) (.aU .j (.n 2) (.v 13)) (.iff (.or (.not (.of (.isi (.v 15) .list))) (.or (.cmp .NotEq (.v 15) (.v 14)) (.cmp .NotEq (.comp [] (.e (.v 15)) (.t (.not (.of (.isi .a .tuple))) .a)) (.L .nil)))) (.c1 (.ret (.k (.bool false)))) .nil) (.expr (.call "_law_kept" (.c3 .d (.v 15) (.nx .e (.n 3))))))
def bl3:ISs:=(.cons (.asg 7 (.nx .e (.n 2))) (.cons (.asg 8 (.itm .b .i)) (.cons (.asg 9 (.len (.itk .j 0))) (.cons (.asg 10 (.tup (.c3 (.len (.itk .f 0)) (.len (.itk .f 1)) (.itk .f 2)))) (.cons (.iff (.cmp .Eq (.nx .e (.n 6)) (.n 1)) (.c2 (.asg 11 (.call "_law_wrong" (.c4 .e (.v 10) .l (.itk .f 4)))) (.iff (.not (.of (.call "_law_refused" (.c3 (.itm .a .i) (.itk (.v 11) 0) (.itk (.v 11) 1))))) (.c1 (.ret (.k (.bool false)))) .nil)) (.cons (.asg 12 (.call "_law_deed" (.c4 .e (.v 10) .l (.itk .f 4)))) (.cons (.expr (.call "_law_noted" (.c3 (.itk .j 0) (.itk .j 1) (.v 12)))) (.stop Ia)))) (.stop Aw))))))
theorem YD:f6 tab pq "_law_step" 79 18 7 bl3=true:=by k_extra"#"
def KR:ISs:=(.c4 (.asg 4 (.pick (.c2 (.bin .Add (.n 1) (.nx .d (.n 4))) (.n 8)) (.int (.cmp .Eq (.nx .d (.n 8)) (.n 1))))) (.bh 5 [] (.r1 .f) (.e (.L .nil))) (.bh 6 [3] (.r1 .f) (.e (.bin .Mult (.L (.c1 (.k (.bool false)))) .b))) (.ret (.L (.c3 .g .h (.call "_law_all" (.c4 .a .b .g .h))))))
theorem bU8:f6 tab pq "_law_begun" 80 7 4 KR=true:=by k_extra"#"
def Hy:ISs:=(.c1 (.ret (.cmp .Eq (.comp [] (.e .i) (.t (.cmp .NotEq (.itk .a 0) (.itk .a 1)) .a)) (.L .nil))))
def xW:ISs:=(.cons (.loop .l (.L (.c2 (.n 0) (.n 1))) (.c1 (.iff (.cmp .NotEq (.aC "File" "owed" "File.owed" (.itm .h .l) .nil) (.sum (.comp [1] (.e (.itk (.itm .g .l) 2)) (.e (.itm .a (.itk .b 3)))))) (.c1 (.ret (.k (.bool false)))) .nil))) (.stop Hy))
def HY:ISs:=(.cons (.aH .j (.r2 (.n 3) (.len .a)) (.c2 (.asg 4 (.L (.c1 (.call "_law_mixed" (.c2 (.itm .a .j) .j))))) (.iff (.not (.of (.call "_law_step" (.c7 .h .g .i .f .b .d .e)))) (.c1 (.ret (.k (.bool false)))) .nil))) (.stop xW))
def JF:ISs:=(.cons (.asg 1 (.call "_law_form" (.c2 .a (.n 12)))) (.cons (.asg 2 (.call "form_of" (.c4 (.itk .b 0) (.itk .b 1) (.itk .b 2) (.itk .b 3)))) (.drop (.cons (.asg 3 (.call "_law_row" (.c1 (.itk .d 0)))) (.cons (.asg 4 (.L (.c1 (.call "_law_mixed" (.c2 (.call "_law_cell_at" (.c2 .a (.n 2))) (.n 3)))))) (.cons (.asg 5 (.L (.c2 (.call "_law_begun" (.c4 .d .e .f (.itk .b 2))) (.call "_law_begun" (.c4 .d .e .f (.itk .b 2)))))) (.cons (.asg 6 (.L (.c2 (.new "File" "File.__init__" (.c2 .d (.len (.itk (.itk .g 0) 0)))) (.new "File" "File.__init__" (.c2 .d (.len (.itk (.itk .g 1) 0))))))) (.cons (.asg 7 (.L .nil)) (.stop HY)))))))))
theorem Ud:f6 tab pq "law" 81 10 1 JF=true:=by k_extra"#"
section
variable{g:G}{Q:V->Hp->Prop}{C:Int}{rk:Int->Nat}{x d:Addr}{T:List (List Bool)}{f:Nat->Nat->Int}
theorem BadD.e{n m:Nat}{w e:Str}(B:BadD n m C dd w e):e∈F9/\((w = "year"/\e = "NoYear")∨(w = "paper"/\e = "NoPaper")∨(w = "choice"/\e = "NoChoice")∨(w = "line"/\e = "NoLine")):=by
 cases B with
 | bK=>exact⟨.tail _ (.head _),.inr (.inl ⟨rfl,rfl⟩)⟩
 | bx=>exact⟨.tail _ (.tail _ (.head _)),.inr (.inr (.inl ⟨rfl,rfl⟩))⟩
 | valL=>exact⟨.tail _ (.tail _ (.tail _ (.head _))),.inr (.inr (.inr ⟨rfl,rfl⟩))⟩
 | _=>exact⟨.head _,.inl ⟨rfl,rfl⟩⟩
theorem Ql(N:Nm g)(hD:19<=D)(F:FG rh tc C ow rk)(A:FlAt M (fmV rh tc C ow) x d pa ma ra pds mks rws U T (k8 f rh.length T.length))(nz:NZ M)(Y:Yrs C U T)(u4:∀ u∈U,u.length<=4)(B:BadD T.length rh.length C dd w e)(h:Q (.str w) M):d8 g D true "_law_tried" [.ref x,dd] M Q X:=by
 refine bd N Jz (by k_extra"b") hD λcx p=>?_
 k_extra"w";refine Bw p.N (p.dd (by decide)) F A nz Y u4 B ?_
 rcases B.e.2 with ⟨rfl,rfl⟩ | ⟨rfl,rfl⟩ | ⟨rfl,rfl⟩ | ⟨rfl,rfl⟩
 all_goals
  k_extra"w";exact p.h h
theorem Lz(N:Nm g)(hD:20<=D)(F:FG rh tc C ow rk)(A:FlAt M (fmV rh tc C ow) x d pa ma ra pds mks rws U T (k8 f rh.length T.length))(nz:NZ M)(Y:Yrs C U T)(u4:∀ u∈U,u.length<=4)(B:BadD T.length rh.length C dd w e)(h:Q (.bool true) M):d8 g D true "_law_refused" [.ref x,dd,.str w] M Q X:=by
 refine bd N aZ1 (by k_extra"b") hD λcx p=>?_
 k_extra"w";refine Ql p.N (p.dd (by decide)) F A nz Y u4 B ?_
 k_extra"w";refine Bw p.N (p.dd (by decide)) F A nz Y u4 B (Hit.yes ((by k_extra"#":∀ x∈F9,F9.contains x=true) e B.e.1) ?_)
 intro a Ma;k_extra"w";exact aY7 p.N (p.dd (by decide)) (d6 _ _ _) B.e.1 (p.r (Sub.upd Ma) h)
end
structure WrL(n m:Nat)(C:Int)(y gd w0 l c k:V)(wd:Str):Prop where
 hy:Bd y n
 hg:f8 gd 0 ((n:Int)-1)=true
 cg:Atm gd
 hw:x5 w0=false
 cw:Atm w0
 cd:Atm (.str wd)
 hl:Bd l m
 hc:Bd c C
 hk:f8 k (0-1000000000) 1000000000=false
 ck:Atm k
def GoB(n m:Nat)(C:Int)(M:Hp)(r:Addr):Prop:=∃ dd w e,BadD n m C dd w e/\M r=some (.L [dd,.str w])
theorem GoB.sub{n m:Nat}{C:Int}(h:GoB n m C M r)(k:Sub M M'):GoB n m C M' r:=by refine v9 h λdd w e B q=>?_;exact⟨dd,w,e,B,k _ _ q⟩
structure WrS(st:Addr)(zq M:Hp):Prop where
 aB:e8 [st] zq M
 nz:NZ M
 hst:∃ k:Int,M st=some (.L [.int k])/\0<=k/\k<2147483647
def WrQ(n m:Nat)(C:Int)(st:Addr)(zq:Hp)(Q:VP):Prop:=∀ u b,WrS st zq u->GoB n m C u b->Q (.ref b) u
theorem WrS.new(h:WrS st zq M){l:List V}(Ma:M a=none)(hl:nzL l=true):WrS st zq (upd M a (.L l)):=by
 exact f5 h.hst λk e q u=>⟨h.aB.trans (e8.new Ma),h.nz.upd hl,k,g9 e Ma,q,u⟩
theorem qF{x:Str}{c:V}(Z:Atm a)(S:Atm b)(q:Atm c):nz (.tup [.str x,a,b,c])=true:=rK rfl rfl Z.nz S.nz q.nz
theorem zf{x:Str}(Z:Atm a)(S:Atm b):nz (.tup [.str x,a,b])=true:=rJ rfl rfl Z.nz S.nz
theorem GD{x:Str}(Z:Atm a):nz (.tup [.str x,a])=true:=O4 rfl (by show(true&&(nz a&&true))=true;rw[Z.nz];rfl)
theorem vm(h:nz dd=true):nzL [dd,.str w]=true:=by show(nz dd&&true)=true;rw[h];rfl
theorem BadD.nz{n m:Nat}{C:Int}{w e:Str}(B:BadD n m C dd w e):Internal.nz dd=true:=by
 cases B with
 | putY L A q=>exact qF L.cl A q
 | bK L u Ma A q=>exact qF u A q
 | bI L q=>exact qF L.cl q (.bool _)
 | bx L u K=>exact qF u K.cl (.bool _)
 | valY L q=>exact zf L.cl q
 | valL L u K=>exact zf u K.cl
 | bL L=>exact GD L.cl
 | bC L=>exact GD L.cl
theorem qt{n m:Nat}{C:Int}(W:WrS st zq M){E:Str}(A:BadD n m C q u E)(F:BadD n m C w S H)(Ma:M a=none)(Y:upd M a (.L [q,.str u]) b=none) :
  WrS st zq (upd (upd M a (.L [q,.str u])) b (.L [w,.str S]))/\GoB n m C (upd (upd M a (.L [q,.str u])) b (.L [w,.str S])) a/\GoB n m C (upd (upd M a (.L [q,.str u])) b (.L [w,.str S])) b/\Sub M (upd (upd M a (.L [q,.str u])) b (.L [w,.str S])):=
 ⟨(W.new Ma (vm A.nz)).new Y (vm F.nz),⟨_,_,_,A,g9 (d6 _ _ _) Y⟩,⟨_,_,_,F,d6 _ _ _⟩,(Sub.upd Ma).trans (Sub.upd Y)⟩
def LsB(n m:Nat)(C:Int)(st:Addr)(M:Hp)(sa:Addr)(L:Nat)(rs:List Addr):Prop:=M sa=some (.L (rs.map .ref))/\rs.length=L/\(∀ r∈rs,GoB n m C M r/\r≠st)/\sa≠st
theorem GoB.ne{n m:Nat}{C k:Int}(h:GoB n m C u r)(I:M r=none)(e:M st=some (.L [.int k])):GoB n m C u r/\r≠st:=⟨h,λq=>by rw[q,e] at I;cases I⟩
theorem LsB.add{n m:Nat}{C:Int}(H:LsB n m C st M sa L rs)(s:Sub M I)(W:WrS st zq I)(A:∀ b∈bs,GoB n m C I b/\b≠st)(w:I o=none)(u:upd I o (.L (bs.map .ref)) e=none) :
  WrS st zq (upd (upd I o (.L (bs.map .ref))) e (.L (rs.map .ref++bs.map .ref)))/\LsB n m C st (upd (upd I o (.L (bs.map .ref))) e (.L (rs.map .ref++bs.map .ref))) e (L+bs.length) (rs++bs):=by
 have F:nzL (rs.map V.ref++bs.map .ref)=true:=by rw[<- cG];exact D3
 refine⟨((W.new w D3).new u F),by rw[cG];exact d6 _ _ _,by rw[cC,H.2.1],λr E=>?_,λq=>?_⟩
 ·have s2:Sub I (upd (upd I o (.L (bs.map .ref))) e (.L (rs.map .ref++bs.map .ref))):=(Sub.upd w).trans (Sub.upd u)
  rcases cz.mp E with q | q
  ·exact⟨((H.2.2.1 r q).1.sub s).sub s2,(H.2.2.1 r q).2⟩
  ·exact⟨(A r q).1.sub s2,(A r q).2⟩
 ·refine f5 ((W.new (l:=bs.map .ref) w D3).hst) λk z N N=>?_
  rw[q,z] at u;cases u
section
variable{g:G}{Q:V->Hp->Prop}{n m:Nat}{C:Int}{wa:Addr}{zs ct ws y gd l c k w0:V}{wd:Str}
theorem bI3(p:Pk pq tab g 1 Q X cx)(h:WrQ n m C st zq Q)(W:WrS st zq M)(H:LsB n m C st M sa 9 rs):Eb.w true l7 cx [] [some (.ref st),some zs,some ct,some ws,some y,some gd,some (.ref wa),some l,some c,some k,some (.ref sa)] M:=by
 refine f5 W.hst λz e z0 z1=>H4 H λP hl I A=>?_
 k_extra"az"
 have S:upd M st (.L [.int z']) sa=some (.L (rs.map .ref)):=p8 P A;have E:(rs.map V.ref).length=9:=by rw[bQ];exact hl
 k_extra"w";refine Idx.mk r0 (bK4 r1 E) (cQ r1 (by decide)) λv hv=>?_
 rw[bW] at hv;refine a7 (cL.mp hv) λb Y Ja=>?_;subst Ja
 obtain⟨⟨dd,w,F,B,q⟩,u⟩:=I b (cA Y);exact p.h (h _ b ⟨W.aB.trans (e8.upd (.head _)),W.nz.upd rfl,z',d6 _ _ _,z0',z1'⟩ ⟨dd,w,F,B,p8 q u⟩)
set_option tactic.hygienic true in
theorem Tg(p:Pk pq tab g 1 Q X cx)(h:WrQ n m C st zq Q)(L:WrL n m C y gd w0 l c k wd)(W:WrS st zq M)(H:LsB n m C st M sa 6 rs):Eu.w true l7 cx [] [some (.ref st),some zs,some ct,some ws,some y,some gd,some (.ref wa),some l,some c,some k,some (.ref sa)] M:=by
 k_extra"cV"
 have P:=H.1;have E:(rs.map V.ref).length=6:=by rw[bQ];exact H.2.1
 k_extra"w";rename_i a Ma b Y r I o O e K;have u:BadD n m C (.tup [.str "told",y]) "year" "NoYear":=.bC L.hy;refine H4 (qt (n:=n) (m:=m) (C:=C) W (.valL L.hg L.cg L.hl) (.bL L.hy) Ma Y) λW2 F Ja s2=>?_
 have s3:=s2.trans (Sub.upd (o:=.L [.tup [.str "told",y],.str "year"]) I);obtain⟨A,w⟩:=H.add (bs:=[a,b,r]) s3 (W2.new I (vm u.nz)) (λq hq=>by
  k_extra"bw"
  ·rw[z];exact(F.sub (Sub.upd I)).ne Ma ez
  k_extra"bw"
  ·rw[z];exact(Ja.sub (Sub.upd I)).ne (j4 (Sub.upd Ma) Y) ez
  ·rw[bV.mp hq];exact GoB.ne ⟨_,_,_,u,d6 _ _ _⟩ (j4 s2 I) ez) O K
 exact Stop.mk (bI3 p h A w)
set_option tactic.hygienic true in
theorem WF(p:Pk pq tab g 1 Q X cx)(h:WrQ n m C st zq Q)(L:WrL n m C y gd w0 l c k wd)(W:WrS st zq M)(H:LsB n m C st M sa 4 rs):Ac.w true l7 cx [] [some (.ref st),some zs,some ct,some ws,some y,some gd,some (.ref wa),some l,some c,some k,some (.ref sa)] M:=by
 k_extra"cV"
 have P:=H.1;have E:(rs.map V.ref).length=4:=by rw[bQ];exact H.2.1
 k_extra"w";rename_i a Ma b Y o F e A;refine H4 (qt (n:=n) (m:=m) (C:=C) W (.bx (b:=true) L.hg L.cg L.hc) (.valY L.hy L.hl.cl) Ma Y) λW2 u w s2=>?_
 obtain⟨W5,H5⟩:=H.add (bs:=[a,b]) s2 W2 (λq hq=>by
  k_extra"bw"
  ·rw[z];exact u.ne Ma ez
  ·rw[bV.mp hq];exact w.ne (j4 (Sub.upd Ma) Y) ez) F A
 exact Stop.mk (Tg p h L W5 H5)
set_option tactic.hygienic true in
theorem bs2(p:Pk pq tab g 1 Q X cx)(h:WrQ n m C st zq Q)(L:WrL n m C y gd w0 l c k wd)(S:M u=some (.L (.str wd::wt)))(W:WrS st zq M)(H:LsB n m C st M sa 2 rs):yX.w true l7 cx [] [some (.ref st),some zs,some ct,some (.ref u),some y,some gd,some (.ref wa),some l,some c,some k,some (.ref sa)] M:=by
 k_extra"cV"
 have P:=H.1;have E:(rs.map V.ref).length=2:=by rw[bQ];exact H.2.1
 k_extra"w";rename_i a Ma b Y o Ja e I;obtain⟨W2,A,F,s2⟩:=qt (n:=n) (m:=m) (C:=C) W (.bK (w:=.str wd) L.hg L.cg (by rw[L.hk,iR]) L.cd L.ck) (.bI (b:=true) L.hy L.hc.cl) Ma Y
 obtain⟨W5,H5⟩:=H.add (bs:=[a,b]) s2 W2 (λq hq=>by
  k_extra"bw"
  ·rw[z];exact A.ne Ma ez
  ·rw[bV.mp hq];exact F.ne (j4 (Sub.upd Ma) Y) ez) Ja I
 exact Stop.mk (WF p h L W5 H5)
set_option tactic.hygienic true in
theorem cb5(p:Pk pq tab g 1 Q X cx)(h:WrQ n m C st zq Q)(L:WrL n m C y gd w0 l c k wd)(hw:M H=some (.L (.str wd::wt)))(I:M wa=some (.L [w0,.str wd]))(E:H≠st)(Ja:wa≠st)(W:WrS st zq M):yh.w true l7 cx [] [some (.ref st),some zs,some ct,some (.ref H),some y,some gd,some (.ref wa),some l,some c,some k,none] M:=by
 refine f5 W.hst λz e z0 z1=>?_
 k_extra"az"
 have R:WrS st zq (upd M st (.L [.int z'])):=⟨W.aB.trans (e8.upd (.head _)),W.nz.upd rfl,z',d6 _ _ _,z0',z1'⟩;have A:upd M st (.L [.int z']) H=_:=p8 hw E;have F:upd M st (.L [.int z']) wa=_:=p8 I Ja;have O:=d6 M st (.L [.int z']);generalize upd M st (.L [.int z'])=τ at R A F O ⊢;k_extra"w";refine Idx.mk r0 r1 (cQ r1 (by decide)) λv hv=>?_
 have S:Atm v:=by
  rcases bR.mp (cA hv) with q | q
  ·rw[q];exact L.cw
  ·rw[bV.mp q];exact L.cd
 k_extra"w";rename_i a Ma b Y o u;obtain⟨W2,Z,g2,s2⟩:=qt (n:=n) (m:=m) (C:=C) R (.putY L.hy S L.ck) (.bK (w:=w0) (k:=.int 5) L.hg L.cg (by rw[L.hw];rfl) L.cw (.int 5)) Ma Y
 have K:=g2.ne (j4 (Sub.upd Ma) Y) O;have P:=Z.ne Ma O;refine Stop.mk (bs2 (rs:=[a,b]) p h L (g9 (s2 _ _ A) u) (W2.new u rfl) ⟨d6 _ _ _,rfl,λq hq=>?_,λq=>?_⟩)
 ·k_extra"bw"
  ·rw[z];exact⟨P.1.sub (Sub.upd u),P.2⟩
  ·rw[bV.mp hq];exact⟨K.1.sub (Sub.upd u),K.2⟩
 ·have:=s2 _ _ O
  rw[q,this] at u;cases u
end
theorem uE{n:Int}:Bd (.int (-1)) n:=⟨rfl,.int _⟩
theorem wJ{n:Int}:Bd .none n:=⟨rfl,.none⟩
theorem tU{n:Int}:Bd (.bool b) n:=⟨rfl,.bool _⟩
theorem CG{n:Int}{x:Str}(h:x.length<=10000):Bd (.str x) n:=⟨rfl,.str h⟩
theorem N7{n:Int}(h:n<=i):Bd (.int i) n:=⟨by show(decide (0<=i)&&decide (i<=n-1))=false;rw[decide_eq_false (p:=i<=n-1) (by exact Int.not_le.mpr (jh (my _ (by decide)) h)),iR],.int _⟩
section
variable{g:G}{Q:V->Hp->Prop}{n m:Nat}{C:Int}
theorem u6(N:Nm g)(hD:1<=D)(W:WrS st zq M)(K:0<k)(x:k<2 ^ 60)(h:∀ r I,0<=r->r<k->WrS st zq I->e8 [st] M I->Q (.int r) I):d8 g D true "_law_next" [.ref st,.int k] M Q X:=by
 exact f5 W.hst λz e F R=>I2 N hD e F R K x λr A u r1 c q=>h r _ u r1 ⟨W.aB.trans (e8.upd (.head _)),W.nz.upd rfl,A,d6 _ _ _,c,q⟩ (e8.upd (.head _))
theorem ch9(N:Nm g)(hD:2<=D)(W:WrS st zq M)(h:∀ r I,-1000000000<=r->r<=1000000000->WrS st zq I->e8 [st] M I->Q (.int r) I):d8 g D true "_law_number" [.ref st] M Q X:=by
 exact f5 W.hst λz e F R=>wi N hD e F R λr A u r1 c q=>h r _ u r1 ⟨W.aB.trans (e8.upd (.head _)),W.nz.upd rfl,A,d6 _ _ _,c,q⟩ (e8.upd (.head _))
set_option tactic.hygienic true in
theorem bU5(N:Nm g)(hD:2<=D){F:Str}(W:WrS st zq M)(hw:M Ja=some (.L (.str F::wt)))(hwl:Ja≠st)(Ma:Atm (.str F))(R:1<=n)(E:n<=8)(h:WrQ n m C st zq Q):d8 g D true "_law_wrong" [.ref st,.tup [.int m,t,.int C],.int n,.ref Ja] M Q X:=by
 refine bd N VN (by k_extra"b") hD λcx p=>?_
 k_extra"w";refine u6 p.N (p.dd (by decide)) W (by decide) (by decide) λr1 I u _ W S1=>?_
 k_extra"cW";k_extra"p"
 k_extra"H";refine K9 (λv=>Bd v n) h0 h1 (λv hv=>?_) λy L=>?_
 ·k_extra"aY"
  k_extra"cX"
  ·exact uE
  ·exact N7 (jq _)
  ·exact N7 (iW u)
  ·exact wJ
  ·exact tU
  ·exact CG (by k_extra"#")
 clear h0 h1 u;k_extra"w";refine u6 p.N (p.dd (by decide)) W (Ew R) (Ax E) λgd τ' A P W S1=>?_
 k_extra"cW";k_extra"p"
 k_extra"H";refine K9 (λv=>x5 v=false/\Atm v) h0 h1 (λv hv=>?_) λH x=>?_
 ·k_extra"aY"
  rcases hv with rfl | rfl | rfl | rfl | rfl | rfl | rfl
  ·k_extra"G"
  ·k_extra"G"
  ·k_extra"G"
  ·exact⟨rfl,.none⟩
  ·k_extra"G"
  ·k_extra"G"
  ·k_extra"G"
 clear h0 h1;k_extra"w";rename_i q w;have hwn:q≠st:=by refine f5 W.hst λz e _ _=>?_;exact(j8 e w).symm
 have W:=W.new (l:=[H,.str F]) w (by show(nz H&&true)=true;rw[x.2.nz];rfl)
 have hwa:=d6 τ' q (.L [H,.str F]);have hw:=g9 (o:=.L [H,.str F]) hw w;generalize upd τ' q (.L [H,.str F])=τ' at W hwa hw ⊢;k_extra"p"
 k_extra"ac";refine K9 (λv=>Bd v m) h0 h1 (λv hv=>?_) λl hl=>?_
 ·k_extra"aY"
  k_extra"cX"
  ·exact N7 (jq _)
  ·exact uE
  ·exact wJ
  ·exact N7 (Int.le.intro 9 rfl)
  ·exact tU
  ·exact CG (by k_extra"#")
 clear h0 h1;k_extra"w";k_extra"p"
 k_extra"ac";refine K9 (λv=>Bd v C) h0 h1 (λv hv=>?_) λc O=>?_
 ·k_extra"aY"
  rcases hv with rfl | rfl | rfl | rfl | rfl
  ·exact N7 (jq _)
  ·exact uE
  ·exact wJ
  ·exact tU
  ·exact N7 (by exact Int.le.intro 1000000 rfl)
 clear h0 h1;k_extra"w";k_extra"p"
 k_extra"ac";refine K9 (λv=>f8 v (0-1000000000) 1000000000=false/\Atm v) h0 h1 (λv hv=>?_) λk K=>?_
 ·k_extra"aY"
  rcases hv with rfl | rfl | rfl | rfl
  ·exact⟨by k_extra"#",.int _⟩
  ·exact⟨rfl,.none⟩
  ·exact⟨rfl,.bool _⟩
  ·exact⟨rfl,.str (by k_extra"#")⟩
 exact Stop.mk (cb5 p h ⟨L,r9 A (Ca P),.int _,x.1,x.2,Ma,hl,O,K.1,K.2⟩ hw hwa hwl hwn W)
end
inductive GoodD(n:Nat)(C:Int)(W4:List Str):V->Prop
 | put {y:Nat} {w:Str} {i:Int} (hy:y<n) (hw:w∈W4) (i0 : -1000000000<=i) (i1:i<=1000000000):GoodD n C W4 (.tup [.str "put",.int y,.str w,.int i])
 | take {y c:Nat} {b:Bool} (hy:y<n) (hc:(c:Int)<C):GoodD n C W4 (.tup [.str "take",.int y,.int c,.bool b])
section
variable{g:G}{Q:V->Hp->Prop}{n:Nat}{C:Int}
set_option tactic.hygienic true in
theorem bU3(N:Nm g)(hD:3<=D){A:Addr}{m:V}(W:WrS st zq M)(hw:M A=some (.L (ws.map .str)))(hwl:A≠st)(w5:5<=ws.length)(w8:ws.length<=8)(n1:1<=n)(n8:n<=8)(P:C<=8)(h:∀ I dd,WrS st zq I->GoodD n C (ws.take 4) dd->Q dd I):d8 g D true "_law_deed" [.ref st,.tup [m,t,.int C],.int n,.ref A] M Q X:=by
 refine bd N cm6 (by k_extra"b") hD λcx p=>?_
 k_extra"w";refine u6 p.N (p.dd (by decide)) W (Ew n1) (Ax n8) λy I H y1 W S1=>?_
 k_extra"H";refine d4 (dI H) λy Ja=>?_;clear H;subst Ja
 have y1:y<n:=rA y1;k_extra"w";refine u6 p.N (p.dd (by decide)) W (by decide) (by decide) λr I _ _ W S1=>?_
 have hw:=S1 _ _ (j9 hwl) hw;clear S1;have x:∀ {o:Option V} {I:Hp},WrS st zq I->I A=some (.L (ws.map .str))->(ISs.cons (IS.asg 5 (.pick (.cons (.bin .Sub (.call "_law_next" (.cons (.v 0) (.cons (.k (.int 5)) .nil))) (.k (.int 2))) (.cons (.call "_law_number" (.cons (.v 0) .nil)) .nil)) (.call "_law_next" (.cons (.v 0) (.cons (.k (.int 2)) .nil))))) (.cons (.ret (.tup (.cons (.k (.str "put")) (.cons (.v 4) (.cons (.itm (.v 3) (.call "_law_next" (.cons (.v 0) (.cons (.min (.k (.int 4)) (.len (.v 3))) .nil)))) (.cons (.v 5) .nil)))))) .nil)).w true l7 cx [] [some (.ref st),some (.tup [m,t,.int C]),some (.int n),some (.ref A),some (.int y),o] I:=fun{o I} W hw=>by
  have hl:(ws.map V.str).length=ws.length:=bQ _;k_extra"w";refine u6 p.N (p.dd (by decide)) W (by decide) (by decide) λa I Ma K W S1=>?_
  k_extra"cW";refine ch9 p.N (p.dd (by decide)) W λb I L O W S1=>?_
  k_extra"cW";refine u6 p.N (p.dd (by decide)) W (by decide) (by decide) λr2 I Y Z W S1=>?_
  k_extra"H";refine K9 (λv=>∃ i:Int,v=.int i/\-1000000000<=i/\i<=1000000000) Y Z (λv hv=>?_) λv hv=>?_
  ·rcases bR.mp hv with q | q
   ·exact⟨_,q,by exact cQ (by decide) (Int.sub_le_sub_right Ma _),by exact cQ (Int.sub_le_self _ (by decide)) (cQ (gV K) (by decide))⟩
   ·exact⟨b,bV.mp q,L,O⟩
  refine f5 hv λi Ja T U=>?_;clear hv;subst Ja
  k_extra"w";have R:min (4:Int) ((ws.map V.str).length:Int)=4:=by rw[hl];lia
  refine(?_:d8 _ _ _ _ [V.ref st,.int (min 4 ((ws.map V.str).length:Int))] _ _ _);rw[R];refine u6 p.N (p.dd (by decide)) W (by decide) (by decide) λr3 I S E W S1=>?_
  k_extra"cW";refine Idx.mk S (by exact jh E (cQ (by decide) (cZ.mpr (bN w5 (cu hl.symm))))) (cQ E (by decide)) λv hv=>?_
  rw[bW] at hv;refine a7 (cL.mp hv) λw u Ja=>?_;clear hv;subst Ja
  k_extra"w";refine p.h (h _ _ W (.put y1 (cA (i:=r3.toNat) ?_) T U));rw[List.getElem?_take,if_pos (JQ E)];exact u
 k_extra"w"
 ·rename_i q1 q2
  refine u6 p.N (p.dd (by decide)) W (q2) (dz P (by decide)) λc I F c1 W S1=>d4 (dI F) λc Ja=>?_
  clear F;subst Ja;k_extra"w";refine u6 p.N (p.dd (by decide)) W (by decide) (by decide) λb I _ _ W S1=>?_
  k_extra"w";exact p.h (h _ _ W (.take y1 c1))
 ·exact x W hw
 ·exact x W hw
end
theorem bu9(h:nzL l=true):∀ x∈l,nz x=true:=by
 induction l with
 | nil=>intro x U;cases U
 | cons y l ih=>
  intro x U;have h:=h;rcases bR.mp U with q | q
  ·rw[q];exact(b9 h).1
  ·exact ih (b9 h).2 x q
section
variable{g:G}{Q:V->Hp->Prop}{P T:Addr}{ps ts:List Addr}{y:Nat}
theorem bR8(N:Nm g)(hD:1<=D){t:List Bool}(q:M T=some (.L (ts.map .ref)))(Ma:ts[y]?=some a)(R:M a=some (.L (t.map .bool)))(O:c<t.length)(u:t.length<=100)(F:y<=100)(h:Q .none (upd M a (.L ((t.set c b).map .bool)))) :
  d8 g D true "_law_noted" [.ref P,.ref T,.tup [.str "take",.int y,.int c,.bool b]] M Q X:=by
 k_extra"cK"
 have hl:(t.map V.bool).length=t.length:=bQ _;k_extra"w";refine i8 y (.ref a) rfl (by rw[bW,Ma];rfl) F ?_
 k_extra"w";rw[fU,CZ];exact pn (Sub.refl _) h
set_option tactic.hygienic true in
theorem XK(N:Nm g)(hD:1<=D){s:List (Str×Int)}(nz:NZ M)(hP:M P=some (.L (ps.map .ref)))(Ma:ps[y]?=some a)(H:M a=some (.L (s.map tS)))(sz:s.length<=4)(nd:((s.filter λp=>p.1 != w)++[(w,i)] |>.map (·.1)).Nodup)(s4:((s.filter λp=>p.1 != w)++[(w,i)]).length<=4)(pz:ps.length<=100)
  (h:∀ M' b (s':List (Str×Int)),e8 [P] M M'->NZ M'->M' P=some (.L ((ps.set y b).map .ref))->M' b=some (.L (s'.map tS))->M b=none->s'.Perm ((s.filter λp=>p.1 != w)++[(w,i)])->s'.Pairwise ltP->Q .none M') :
  d8 g D true "_law_noted" [.ref P,.ref T,.tup [.str "put",.int y,.str w,.int i]] M Q X:=by
 k_extra"cK"
 have yz:=(cj.mp Ma).1;k_extra"w";refine i8 y (.ref a) rfl (by rw[bW,Ma];rfl) (bN (dK yz) (bN pz (by decide))) ?_
 refine Look.mk _ H ?_;refine CLoop.g p (λC A M'=>M=M'/\∃ d1 d2,s=d1++d2/\C=d2.map tS/\A=(d1.filter λp=>p.1 != w).map tS) (by rw[bQ];exact bN sz (cT ..)) ⟨rfl,[],s,rfl,rfl,rfl⟩ (λcx p v C A U hN=>?_) ?_
 ·rintro _ hh;k_extra"4"
  refine⟨H,?_⟩;cases d2 with
  | nil=>cases e2
  | cons q d2=>
   obtain⟨rfl,rfl⟩:=List.cons.inj e2;k_extra"w"
   ·rename_i z
    exact U ⟨rfl,d1++[q],d2,by rw[e1,dB];rfl,rfl,by rw[gw,fY,if_pos (bne_iff_ne.mpr z),cG];rfl⟩
   ·rename_i z
    exact hN ⟨rfl,d1++[q],d2,by rw[e1,dB];rfl,rfl,by rw[gw,fY,if_neg (by rw[z];simp),List.filter_nil,dC]⟩
 ·rintro A _ hh;k_extra"4"
  k_extra"E"
  rw[dC] at e1;clear e2;subst e1;refine⟨H,λI L=>?_⟩
  have kl:((s.filter λp=>p.1 != w).map tS).length<=4:=by rw[bQ];exact bN (jG _ _) sz
  k_extra"w";rename_i O K x Ja;have s1:=((Sub.upd (o:=.L ((s.filter λp=>p.1 != w).map tS)) L).trans (Sub.upd (o:=.L [.tup [.str w,.int i]]) K)).trans (Sub.upd (o:=.L ((s.filter λp=>p.1 != w).map tS++[.tup [.str w,.int i]])) Ja)
  have R:NZ (upd (upd (upd M I (.L ((s.filter λp=>p.1 != w).map tS))) O (.L [.tup [.str w,.int i]])) x (.L ((s.filter λp=>p.1 != w).map tS++[.tup [.str w,.int i]]))):=((nz.upd R6).upd rfl).upd (by have:=R6 (u:=(s.filter λp=>p.1 != w)++[(w,i)]);rw[cG] at this;exact this)
  refine SrtL.mk ((s.filter λp=>p.1 != w)++[(w,i)]) (by rw[cG];exact d6 _ _ _) (Srtp.mk nd s4 λb s' Y Z S=>?_)
  have E:=s1 _ _ hP;generalize upd (upd (upd M I (.L ((s.filter λp=>p.1 != w).map tS))) O (.L [.tup [.str w,.int i]])) x (.L ((s.filter λp=>p.1 != w).map tS++[.tup [.str w,.int i]]))=τ at s1 R Y E ⊢
  have hl:(ps.map V.ref).length=ps.length:=bQ _;k_extra"w";have F:=(j8 E Y).symm;refine pn (Sub.refl _) (h _ b s' (λc o q e=>?_) ((R.upd R6).upd ?_) ?_ (by rw[e9 _ _ F];exact d6 _ _ _) (j4 s1 Y) Z S)
  ·k_extra"bl";exact Sub.upd Y _ _ (s1 _ _ e)
  ·rw[map_set V.ref ps];exact D3
  ·rw[d6,fU,map_set V.ref ps]
set_option tactic.hygienic true in
theorem Zg(N:Nm g)(hD:1<=D)(F:M hl=some (.L H))(E:M w=some (.L l))(C:H.length<=10000)(Ja:l.length<=9000)(c:nzL l=true)
  (Y:∀ b a,M b=none->upd M b (.L l) a=none->Q .none (upd (upd (upd M b (.L l)) a (.L [.ref w,.ref b])) hl (.L (H++[.ref a])))) (Z:∀ l',nzL l'=true->Q .none (upd M w (.L l'))):d8 g D true "_law_kept" [.ref hl,.ref w,.int k] M Q X:=by
 refine bdn N WR (by k_extra"b") hD λcx p u=>?_
 k_extra"w"
 ·rename_i b A a Ma
  exact u (Sub.refl _) (Y b a A Ma)
 ·refine u (Sub.refl _) (Z _ (v7 λx hx=>?_))
  k_extra"aD"
  ·exact bu9 c x q
  ·rw[bV.mp q];rfl
 ·exact u (Sub.refl _) (Z _ c)
end
theorem xX{D:List (Str×V)}(c:(D.map (·.1)).Nodup)(h:(x,v)∈D):i9 D x=some v:=by
 induction D with
 | nil=>cases h
 | cons p D u=>
  refine d5 (gh.mp c) λZ S=>?_
  unfold i9;rw[iw];by_cases q:p.1=x
  ·rw[decide_eq_true q]
   rcases bR.mp h with z | z
   ·rw[<- z];rfl
   ·exact absurd (cD.mpr ⟨_,z,rfl⟩:x∈D.map (·.1)) (q▸Z)
  ·rw[decide_eq_false q]
   rcases bR.mp h with z | z
   ·exact absurd (congrArg (·.1) z).symm q
   ·exact u S z
theorem cp4{D:List (Str×V)}(h:x∉D.map (·.1)):i9 D x=none:=by
 cases e:i9 D x with
 | none=>rfl
 | some v=>exact absurd (BX e) h
theorem Su{u s:List (Str×Int)}(h:s.Perm u)(y:(u.map (·.1)).Nodup)(x:Str):C7 s x=C7 u x:=by
 unfold C7;have K:(dS s).Perm (dS u):=h.map _;have E:=G5▸y;have Ja:=(K.map _).nodup_iff.mpr E;cases e:i9 (dS u) x with
 | none=>
  rw[cp4 λq=>?_]
  refine a7 (cD.mp ((K.map _).mem_iff.mp q)) λp Ma z=>?_
  rw[<- z,xX E (x:=p.1) (v:=p.2) Ma] at e;cases e
 | some v=>
  have:(x,v)∈dS u:=by
   unfold i9 at e;refine a7 (cL.mp e) λq c z=>?_
   have Z:=mF c;have S:=gU c;have w:=f4 Z;rw[<- w,<- z];exact S
  rw[xX Ja (K.mem_iff.mpr this)]
theorem PK{E:List Int}(h:∀ x,C7 P x=C7 q x):∀ {n:Nat} {v:V},ok z n v=true->wv ⟨P,E,T,tc⟩ f n v=wv ⟨q,E,T,tc⟩ f n v:=by
 intro n;induction n with
 | zero=>intro v hk;exact ff hk
 | succ n c=>
  intro v hk;cases pR hk with
  | num i=>rw[S7,S7]
  | aD x=>rw[S5,S5];exact h x
  | line i _ _=>rw[P8,P8]
  | au i _ _=>rw[R9,R9]
  | part r i I _ _=>rw[T2,T2,c I]
  | table i r _ _ I=>rw[P5,P5,c I]
  | two w r t S I R=>rw[R8 S,R8 S,c I,c R]
  | bA r t u I R y=>rw[N8,N8,c I,c R,c y]
  | bB i r t _ _ I R=>rw[N9,N9,c I,c R]
theorem Yo{E:List Int}(h:∀ x,C7 P x=C7 w x)(L:Lnk z rh rk):D2 rh ⟨P,E,T,tc⟩ rk=D2 rh ⟨w,E,T,tc⟩ rk:=by
 have c:∀ (k:Nat) (i:Nat),i<rh.length->rk i<k->sol rh ⟨P,E,T,tc⟩ rk i=sol rh ⟨w,E,T,tc⟩ rk i:=by
  intro k;induction k with
  | zero=>intro i _ q;exact absurd q (gA _)
  | succ k A=>
   intro i u q;rw[<- rN L u,<- rN L u,PK h (L.ok i u)];refine rQ (L.ok i u) λj y=>?_
   obtain⟨⟨I,D⟩,F⟩:=L.dn i u j y;refine d4 (dI I) λC Ja=>?_;subst Ja
   exact A C (rA D) (cR F (eH q))
 unfold D2;exact gD λi u=>c _ i (dY.mp u) (gF _)
structure PmU(S U:List (List (Str×Int))):Prop where
 len:S.length=U.length
 pm:∀ {j:Nat} {s u},S[j]?=some s->U[j]?=some u->s.Perm u/\s.Pairwise ltP
theorem Ye{B:List (List Bool)}(L:Lnk z rh rk)(H:PmU S U)(q:∀ u∈U,(u.map (·.1)).Nodup)(E:U.length=B.length):∀ k,k<=B.length->eY rh tc rk S B k=eY rh tc rk U B k:=by
 intro k;induction k with
 | zero=>intro _;rfl
 | succ k w=>
  intro K;have Z:k<U.length:=Nat.lt_of_lt_of_eq K (id (lE E));have c:k<S.length:=by rw[H.len];exact Z
  rw[U8 (bO c) (bO K),U8 (bO Z) (bO K),w (Nat.le_of_succ_le K)];exact Yo (Su (H.pm (bO c) (bO Z)).1 (q _ (fL Z))) L
theorem cl7{B:List (List Bool)}(L:Lnk z rh rk)(H:PmU S U)(q:∀ u∈U,(u.map (·.1)).Nodup)(E:U.length=B.length):hL rh tc rk S B B.length=k8 (yF rh tc rk U B) rh.length B.length:=by
 rw[<- sS (cu E.symm) (cO _)];unfold hL;exact gD λj c=>by rw[Ye L H q E _ (by have:=dY.mp c;exact this)]
theorem tV(y:(u.map (·.1)).Nodup):(B7 u w i).Perm ((u.filter λp=>p.1 != w)++[(w,i)]):=by
 unfold B7;by_cases q:(u.any λp=>decide (p.1=w))=true
 ·rw[if_pos q]
  refine a7 (ie.mp q) λp Ma e=>?_
  have e:=f4 e;refine j7 (List.append_of_mem Ma) λa b Ja=>?_;subst Ja
  rw[cG,gM] at y;refine i4 (eN.mp y) λF Y c=>?_
  have C:∀ x∈a,x.1≠w:=λx U z=>c x.1 (gC U) _ (.head _) (z.trans e.symm)
  have E:∀ x∈b,x.1≠w:=λx U z=>(gh.mp Y).1 (by rw[e,<- z];exact gC U)
  have A:∀ {l:List (Str×Int)},(∀ x∈l,x.1≠w)->(l.map λp=>if p.1=w then(w,i) else p)=l:=fun{l} h=>by
   refine(gD λx U=>if_neg (h x U)).trans (List.map_id' l)
  have D:∀ {l:List (Str×Int)},(∀ x∈l,x.1≠w)->(l.filter λp=>p.1 != w)=l:=λh=>jX.mpr λx U=>bne_iff_ne.mpr (h x U)
  rw[cG,gM,A C,A E,if_pos e,gw,fY,if_neg (by rw[e];simp),D C,D E]
  exact List.perm_middle.trans (List.perm_append_singleton _ _).symm
 ·rw[if_neg q,jX.mpr λx U=>bne_iff_ne.mpr λe=>q (ie.mpr ⟨x,U,decide_eq_true e⟩)]
theorem Dd{u:List (Str×Int)}{i:Int}(c:(u.map (·.1)).Nodup):(((u.filter λp=>p.1 != w)++[(w,i)]).map (·.1)).Nodup:=by
 rw[cG];refine eN.mpr ⟨c.sublist (oh.map _),by simp,λx U y hy e=>?_⟩
 refine a7 (cD.mp U) λp Ma z=>?_
 have:=(gj.mp Ma).2;rw[bV.mp hy] at e;rw[z,e] at this;simp at this
theorem Dl(c:(u.map (·.1)).Nodup)(h:p∈B7 u w i):p∈u∨p=(w,i):=by
 rcases cz.mp ((tV c).mem_iff.mp h) with q | q
 ·exact .inl (gj.mp q).1
 ·exact .inr (bV.mp q)
theorem zr{u:List (Str×Int)}{W:List Str}(q:(u.map (·.1)).Nodup)(h:∀ p∈u,p.1∈W):u.length<=W.length:=by
 have:=pQ (l:=(u.map λp:Str×Int=>p.1).map V.str) (k:=W.map V.str) (List.Pairwise.map _ (λa b c e=>c (V.str.inj e)) q) λy hy=>by
  refine a7 (cD.mp hy) λx hx qa=>?_;subst qa
  refine a7 (cD.mp hx) λp hp qa=>?_;subst qa
  exact gC (h p hp)
 rwa[bQ,bQ,bQ] at this
theorem JN{a b:List (Str×Int)}(Z:a.Perm u)(S:a.Pairwise ltP)(c:b.Perm u)(X:b.Pairwise ltP):a=b:=
 List.Perm.eq_of_pairwise (λx y N N p q=>absurd p (List.lt_asymm q)) S X (Z.trans c.symm)
theorem GP.put{u:List (Str×Int)}(h:GP u)(S:m9 w=true)(x : -1000000000<=i)(Y:i<=1000000000):GP (B7 u w i):=by
 have c:=G5▸h.nd;refine⟨by rw[G5];exact((tV c).map _).nodup_iff.mpr (Dd c),λp Ma=>?_,λp Ma=>?_,λp Ma=>?_⟩<;>rcases Dl c Ma with q | q
 ·exact h.wd p q
 ·rw[q];exact S
 ·exact h.lo p q
 ·rw[q];exact x
 ·exact h.hi p q
 ·rw[q];exact Y
set_option genSizeOf false
set_option genInjectivity false
structure Sd where
 x:Addr
 d:Addr
 pa:Addr
 ma:Addr
 m:Addr
 P:Addr
 T:Addr
 pds:List Addr
 mks:List Addr
 ts:List Addr
structure Sv where
 ra:Addr
 R:Addr
 rws:List Addr
 rs:List Addr
 ps:List Addr
 U:List (List (Str×Int))
 S:List (List (Str×Int))
 B:List (List Bool)
structure Fo where
 rh:List V
 tc:List V
 C:Int
 ow:Int
 rk:Int->Nat
 W4:List Str
def Fo.fm(o:Fo):V:=fmV o.rh o.tc o.C o.ow
def Fo.f(o:Fo)(U:List (List (Str×Int)))(B:List (List Bool)):Nat->Nat->Int:=yF o.rh o.tc o.rk U B
noncomputable def Sd.W(s:Sd):List Addr:=s.d::s.m::s.P::(s.pds++(s.mks++s.ts))
structure SdAt(o:Fo)(M:Hp)(s:Sd)(v:Sv):Prop where
 A:FlAt M o.fm s.x s.d s.pa s.ma v.ra s.pds s.mks v.rws v.U v.B (k8 (o.f v.U v.B) o.rh.length v.B.length)
 hm:M s.m=some (.L [.ref s.P,.ref s.T,.ref v.R])
 hP:M s.P=some (.L (v.ps.map .ref))
 hT:M s.T=some (.L (s.ts.map .ref))
 hR:M v.R=some (.L (v.rs.map .ref))
 pS:PAt M v.ps (v.S.map (·.map tS))
 tB:PAt M s.ts (v.B.map (·.map .bool))
 rR:PAt M v.rs (k8 (o.f v.U v.B) o.rh.length v.B.length)
 Y:Yrs o.C v.U v.B
 n1:1<=v.B.length
 pm:PmU v.S v.U
 k4:∀ u∈v.U,∀ p∈u,p.1∈o.W4
structure AllR(s:Sd)(v:Sv)(q:Addr->Prop):Prop where
 x:q s.x
 pa:q s.pa
 ma:q s.ma
 T:q s.T
 ra:q v.ra
 R:q v.R
 rws:∀ a∈v.rws,q a
 rs:∀ a∈v.rs,q a
 ps:∀ a∈v.ps,q a
theorem AllR.and{s:Sd}{v:Sv}{q:Addr->Prop}(h:AllR s v q)(h':AllR s v q')(k:∀ a,q a->q' a->r a):AllR s v r:=⟨k _ h.x h'.x,k _ h.pa h'.pa,k _ h.ma h'.ma,k _ h.T h'.T,k _ h.ra h'.ra,k _ h.R h'.R,λa Ma=>k _ (h.rws a Ma) (h'.rws a Ma),λa Ma=>k _ (h.rs a Ma) (h'.rs a Ma),λa Ma=>k _ (h.ps a Ma) (h'.ps a Ma)⟩
theorem AllR.imp{s:Sd}{v:Sv}{q:Addr->Prop}(h:AllR s v q)(k:∀ a,q a->q' a):AllR s v q':=⟨k _ h.x,k _ h.pa,k _ h.ma,k _ h.T,k _ h.ra,k _ h.R,λa Ma=>k _ (h.rws a Ma),λa Ma=>k _ (h.rs a Ma),λa Ma=>k _ (h.ps a Ma)⟩
structure AllW(s:Sd)(q:Addr->Prop):Prop where
 d:q s.d
 m:q s.m
 P:q s.P
 pds:∀ a∈s.pds,q a
 mks:∀ a∈s.mks,q a
 ts:∀ a∈s.ts,q a
theorem P9{s:Sd}{q:Addr->Prop}(h:∀ a∈s.W,q a):AllW s q:=⟨h _ (.head _),h _ (.tail _ (.head _)),h _ (.tail _ (.tail _ (.head _))),λa Ma=>h _ (.tail _ (.tail _ (.tail _ (cV _ Ma)))),λa Ma=>h _ (.tail _ (.tail _ (.tail _ (cU _ (cV _ Ma))))),λa Ma=>h _ (.tail _ (.tail _ (.tail _ (cU _ (cU _ Ma)))))⟩
theorem AllW.all{s:Sd}{q:Addr->Prop}(h:AllW s q):∀ a∈s.W,q a:=λa ha=>by
 k_extra"e"
 ·rw[e];exact h.d
 k_extra"e"
 ·rw[e];exact h.m
 k_extra"e"
 ·rw[e];exact h.P
 k_extra"b9"
 ·exact h.pds a e
 k_extra"cp"
 ·exact h.mks a e
 ·exact h.ts a e
theorem PAt.kp(h:PAt M cs u)(k:∀ c∈cs,∀ o,M c=some o->M' c=some o):PAt M' cs u:=⟨h.len,λE C=>k _ (cA E) _ (h.at' E C)⟩
theorem DsAt.kp(h:DsAt M cs U)(k:∀ c∈cs,∀ o,M c=some o->M' c=some o):DsAt M' cs U:=⟨h.len,λE C=>k _ (cA E) _ (h.at' E C)⟩
def Kp(M M':Hp)(a:Addr):Prop:=∀ o,M a=some o->M' a=some o
theorem FlAt.kp{D:Addr}(A:FlAt M fm x d D C L w u y U T R)(Z:Kp M M' x)(S:Kp M M' d)(F:Kp M M' D)(X:Kp M M' C)(E:Kp M M' L)(H:∀ c∈w,Kp M M' c)(I:∀ c∈u,Kp M M' c)(Ja:∀ c∈y,Kp M M' c):FlAt M' fm x d D C L w u y U T R:=
 ⟨Z _ A.hx,S _ A.hd,F _ A.hp,X _ A.hm,E _ A.hr,A.pd.kp H,A.mb.kp I,A.ro.kp Ja,A.np,A.nm,A.a1,A.a2,A.a3,A.a4⟩
theorem SdAt.kp{o:Fo}{s:Sd}{v:Sv}(H:SdAt o M s v)(w:AllW s (Kp M M'))(r:AllR s v (Kp M M')):SdAt o M' s v:=
 ⟨H.A.kp r.x w.d r.pa r.ma r.ra w.pds w.mks r.rws,w.m _ H.hm,w.P _ H.hP,r.T _ H.hT,r.R _ H.hR,H.pS.kp r.ps,H.tB.kp w.ts,H.rR.kp r.rs,H.Y,H.n1,H.pm,H.k4⟩
def Dm(M:Hp)(a:Addr):Prop:=∃ o,M a=some o
theorem PAt.dm(h:PAt M cs c):∀ a∈cs,Dm M a:=λa Ma=>by refine a7 (h.has Ma) λx N e=>?_;exact⟨_,e⟩
theorem DsAt.dm(h:DsAt M cs U):∀ a∈cs,Dm M a:=λa Ma=>eF λq=>h.no (b:=a) (by
 cases e:M a with
 | none=>rfl
 | some o=>exact absurd ⟨o,e⟩ q) Ma
theorem SdAt.dW{o:Fo}{s:Sd}{v:Sv}(H:SdAt o M s v):AllW s (Dm M):=⟨⟨_,H.A.hd⟩,⟨_,H.hm⟩,⟨_,H.hP⟩,H.A.pd.dm,H.A.mb.dm,H.tB.dm⟩
theorem SdAt.dR{o:Fo}{s:Sd}{v:Sv}(H:SdAt o M s v):AllR s v (Dm M):=⟨⟨_,H.A.hx⟩,⟨_,H.A.hp⟩,⟨_,H.A.hm⟩,⟨_,H.hT⟩,⟨_,H.A.hr⟩,⟨_,H.hR⟩,H.A.ro.dm,H.rR.dm,H.pS.dm⟩
structure SepW(s:Sd):Prop where
 mP:s.m≠s.P
 m1:s.m∉s.mks
 m2:s.m∉s.ts
 p1:s.P∉s.mks
 p2:s.P∉s.ts
 mt:∀ c∈s.mks,c∉s.ts
 nt:s.ts.Nodup
structure Kt where
 fl:Addr
 ml:Addr
 hl:Addr
 pt:Addr
 pl:Addr
 tl:Addr
 wl:Addr
 rw:Addr
 s:Bool->Sd
 ws:List Str
 O:List Int
noncomputable def Kt.cs(K:Kt):List Addr:=[K.fl,K.ml,K.pt,K.pl,K.tl,K.wl,K.rw]
structure KtAt(o:Fo)(K:Kt)(M:Hp):Prop where
 hf:M K.fl=some (.L [.ref (K.s false).x,.ref (K.s true).x])
 hm:M K.ml=some (.L [.ref (K.s false).m,.ref (K.s true).m])
 hp:M K.pt=some (.L [.ref K.pl,.ref K.tl,.int o.C,.int o.ow,.ref K.wl])
 hl:M K.pl=some (.L o.rh)
 ht:M K.tl=some (.L o.tc)
 hw:M K.wl=some (.L (K.ws.map .str))
 hr:M K.rw=some (.L (K.O.map .int))
structure KtC(o:Fo)(K:Kt):Prop where
 F:FG o.rh o.tc o.C o.ow o.rk
 tp:Tp o.rh K.O
 ol:K.O.length=o.rh.length
 w5:5<=K.ws.length
 w8:K.ws.length<=8
 ww:∀ x∈K.ws,m9 x=true
 e4:o.W4=K.ws.take 4
def Out(K:Kt)(a:Addr):Prop:=a∉(K.s false).W/\a∉(K.s true).W/\a≠K.hl
structure Hd(M:Hp)(hl:Addr)(qs:List Addr)(q:Addr->Prop):Prop where
 hh:M hl=some (.L (qs.map .ref))
 pr:∀ a∈qs,∃ b c l,M a=some (.L [.ref b,.ref c])/\M b=some (.L l)/\M c=some (.L l)/\Fl l/\q a/\q b/\q c
theorem Hd.kp{q:Addr->Prop}(H:Hd M hl qs q)(Z:Kp M M' hl)(S:∀ a,q a->Kp M M' a):Hd M' hl qs q:=⟨Z _ H.hh,λa Ma=>by
 refine uQ (H.pr a Ma) λb c l E C x f u w y=>?_
 exact⟨b,c,l,S a u _ E,S b w _ C,S c y _ x,f,u,w,y⟩⟩
theorem Hd.imp{q:Addr->Prop}(H:Hd M hl qs q)(h:∀ a,Dm M a->q a->q' a):Hd M hl qs q':=⟨H.hh,λa Ma=>by
 refine uQ (H.pr a Ma) λb c l E C u f w x y=>?_
 exact⟨b,c,l,E,C,u,f,h a ⟨_,E⟩ w,h b ⟨_,C⟩ x,h c ⟨_,u⟩ y⟩⟩
structure Wd(o:Fo)(K:Kt)(q:Addr->Prop)(M:Hp)(v:Bool->Sv)(qs:List Addr):Prop where
 kt:KtAt o K M
 sd:∀ b,SdAt o M (K.s b) (v b)
 hd:Hd M K.hl qs (λa=>Out K a/\q a)
 nz:NZ M
 oc:∀ a∈K.cs,Out K a/\q a
 ro:∀ b,AllR (K.s b) (v b) (λa=>Out K a/\q a)
 wo:∀ b,AllW (K.s b) q
 qh:q K.hl
 dj:∀ b,∀ a∈(K.s b).W,a∉(K.s !b).W
 hw:∀ b,K.hl∉(K.s b).W
 sp:∀ b,SepW (K.s b)
 ql:qs.length<=9000
section
variable{o:Fo}{K:Kt}{q:Addr->Prop}{v:Bool->Sv}
theorem KtAt.kp(H:KtAt o K M)(h:∀ a∈K.cs,Kp M M' a):KtAt o K M':=
 ⟨h _ (.head _) _ H.hf,h _ (.tail _ (.head _)) _ H.hm,h _ (.tail _ (.tail _ (.head _))) _ H.hp,h _ (.tail _ (.tail _ (.tail _ (.head _)))) _ H.hl,h _ (.tail _ (.tail _ (.tail _ (.tail _ (.head _))))) _ H.ht,h _ (.tail _ (.tail _ (.tail _ (.tail _ (.tail _ (.head _)))))) _ H.hw,h _ (.tail _ (.tail _ (.tail _ (.tail _ (.tail _ (.tail _ (.head _))))))) _ H.hr⟩
theorem Wd.kp(W:Wd o K q M v qs)(h:∀ a,q a->Kp M M' a)(nz:NZ M'):Wd o K q M' v qs:=
 ⟨W.kt.kp λa Ma=>h a (W.oc a Ma).2,λb=>(W.sd b).kp (P9 λa Ma=>h a ((W.wo b).all a Ma)) ((W.ro b).imp λa Ma=>h a Ma.2),W.hd.kp (h _ W.qh) λa Ma=>h a Ma.2,nz,W.oc,W.ro,W.wo,W.qh,W.dj,W.hw,W.sp,W.ql⟩
theorem Wd.dm(W:Wd o K q M v qs)(h:∀ a,Dm M a->q a->q' a):Wd o K q' M v qs:=
 ⟨W.kt,W.sd,W.hd.imp λa d p=>⟨p.1,h a d p.2⟩,W.nz,λa ha=>⟨(W.oc a ha).1,h a (by
  k_extra"e"
  ·rw[e];exact⟨_,W.kt.hf⟩
  k_extra"e"
  ·rw[e];exact⟨_,W.kt.hm⟩
  k_extra"e"
  ·rw[e];exact⟨_,W.kt.hp⟩
  k_extra"e"
  ·rw[e];exact⟨_,W.kt.hl⟩
  k_extra"e"
  ·rw[e];exact⟨_,W.kt.ht⟩
  k_extra"e"
  ·rw[e];exact⟨_,W.kt.hw⟩
  ·rw[bV.mp ha];exact⟨_,W.kt.hr⟩) (W.oc a ha).2⟩,λb=>(W.ro b).and (W.sd b).dR λa p d=>⟨p.1,h a d p.2⟩,λb=>P9 λa ha=>h a ((W.sd b).dW.all a ha) ((W.wo b).all a ha),h _ ⟨_,W.hd.hh⟩ W.qh,W.dj,W.hw,W.sp,W.ql⟩
theorem Wd.out(W:Wd o K q M v qs)(Ma:M a=none):Out K a:=by
 have k:∀ {b},Dm M b->a≠b:=fun{b} d e=>by refine d4 d λU c=>?_;rw[<- e,Ma] at c;cases c
 exact⟨λh=>k ((W.sd false).dW.all a h) rfl,λh=>k ((W.sd true).dW.all a h) rfl,k ⟨_,W.hd.hh⟩⟩
end
theorem PAt.repl(h:PAt M cs u)(Y:M b=some (.L x)):PAt M (cs.set y b) (u.set y x):=
 ⟨by rw[dZ,dZ];exact h.len,fun{j c z} E C=>by
  rw[iH] at E C;by_cases q:y=j
  ·rw[if_pos q] at E C
   by_cases R:y<cs.length
   ·rw[if_pos R] at E
    k_extra"c0";exact Y
   ·rw[if_neg R] at E;cases E
  ·rw[if_neg q] at E C
   exact h.at' E C⟩
theorem PmU.set(h:PmU S U){s:List (Str×Int)}(P:s.Perm u)(Ma:s.Pairwise ltP):PmU (S.set y s) (U.set y u):=
 ⟨by rw[dZ,dZ];exact h.len,fun{j a b} E C=>by
  rw[iH] at E C;by_cases q:y=j
  ·rw[if_pos q] at E C
   by_cases R:y<S.length
   ·rw[if_pos R] at E
    k_extra"c0";exact⟨P,Ma⟩
   ·rw[if_neg R] at E;cases E
  ·rw[if_neg q] at E C
   exact h.pm E C⟩
structure DeedOK(g:G)(o:Fo)(s:Sd)(v:Sv)(dd:V)(U':List (List (Str×Int)))(B':List (List Bool)):Prop where
 Y:Yrs o.C U' B'
 len:B'.length=v.B.length
 k4:∀ u∈U',∀ p∈u,p.1∈o.W4
 noted:∀ {D:Nat} {τ:Hp} {Q:VP} {X:XP},1<=D->SdAt o τ s v->NZ τ->(∀ M' ps' S',e8 (s.P::s.ts) τ M'->NZ M'->M' s.P=some (.L (ps'.map .ref))->PAt M' ps' (S'.map (·.map tS))->PAt M' s.ts (B'.map (·.map .bool))->PmU S' U'->(∀ a∈ps',a∈v.ps∨τ a=none)->Q .none M')->d8 g D true "_law_noted" [.ref s.P,.ref s.T,dd] τ Q X
 told:∀ {D:Nat} {τ:Hp} {Q:VP} {X:XP},18<=D->FlAt τ o.fm s.x s.d s.pa s.ma v.ra s.pds s.mks v.rws v.U v.B (k8 (o.f v.U v.B) o.rh.length v.B.length)->NZ τ->(∀ fa M' c,c∈s.pds++s.mks->Aft τ o.rh o.tc o.C o.ow o.rk s.x s.d s.pa s.ma s.pds s.mks (o.f v.U v.B) c U' B' fa M'->Q (.ref fa) M')->d8 g D true "_law_told" [.ref s.x,dd] τ Q X
section
variable{g:G}{o:Fo}{s:Sd}{v:Sv}
theorem SdAt.nd(H:SdAt o M s v):∀ u∈v.U,(u.map (·.1)).Nodup:=λu c=>G5▸(H.Y.gp u c).nd
theorem SdAt.u4(H:SdAt o M s v)(K:o.W4.length<=4):∀ u∈v.U,u.length<=4:=λu c=>bN (zr (H.nd u c) (H.k4 u c)) K
theorem Lx(N:Nm g)(F:FG o.rh o.tc o.C o.ow o.rk)(w4:o.W4.length<=4)(Z:∀ x∈o.W4,m9 x=true)(H:SdAt o M s v)(out:AllR s v (·∉s.W))(sp:SepW s)(hy:y<v.B.length)(S:w∈o.W4)(i0 : -1000000000<=i)(i1:i<=1000000000):∃ U' B',DeedOK g o s v (.tup [.str "put",.int y,.str w,.int i]) U' B':=by
 have E:y<v.U.length:=by rw[H.Y.lu];exact hy
 have C:y<v.S.length:=by rw[H.pm.len];exact E
 have hu:=bO E;have P:=bO C;generalize v.U[y]'E=u at hu;generalize v.S[y]'C=Y at P;have mu:=cA hu;have Ja:=H.nd u mu;obtain⟨I,pm2⟩:=H.pm.pm P hu;have ns:(Y.map (·.1)).Nodup:=(I.map _).nodup_iff.mpr Ja
 have kk:∀ p∈B7 u w i,p.1∈o.W4:=λp hp=>by
  rcases Dl Ja hp with q | q
  ·exact H.k4 u mu p q
  ·rw[q];exact S
 have Ma:=(H.Y.gp u mu).put (Z w S) i0 i1;have l4:(B7 u w i).length<=4:=bN (zr (G5▸Ma.nd) kk) w4;have Y':Yrs o.C (v.U.set y (B7 u w i)) v.B:=⟨by rw[dZ];exact H.Y.lu,λK hu'=>by
  rcases fW hu' with q | q
  ·exact H.Y.gp K q
  ·rw[q];exact Ma,λK hu'=>by
  rcases fW hu' with q | q
  ·exact H.Y.uz K q
  ·rw[q];exact bN l4 (by decide),H.Y.tz,H.Y.zz⟩
 have pw:(B7 u w i).Perm ((Y.filter λp=>p.1 != w)++[(w,i)]):=(tV Ja).trans ((I.filter _).symm.append_right _)
 have zz:=H.Y.zz;refine⟨_,v.B,Y',rfl,λK hu'=>?_,fun{D τ Q X} hD H nz h=>?_,fun{D τ Q X} hD A nz h=>?_⟩
 ·rcases fW hu' with q | q
  ·exact H.k4 K q
  ·rw[q];exact kk
 ·refine a7 (H.pS.get (j:=y) (x:=Y.map tS) (by rw[bW,P];rfl)) λa ha T=>?_
  have lp:v.ps.length=v.S.length:=by rw[H.pS.len,bQ]
  refine XK N hD nz H.hP ha T (by rw[I.length_eq];exact H.u4 w4 u mu) (Dd ns) (by rw[<- pw.length_eq];exact l4) (by rw[lp,H.pm.len,H.Y.lu];exact uZ zz) λL b R U k2 k3 k4 k5 k6 k7=>?_
  have e:(v.S.set y R).map (·.map tS)=(v.S.map (·.map tS)).set y (R.map tS):=lX
  refine h L (v.ps.set y b) (v.S.set y R) (λc o' q e'=>U c o' (j9 λz=>q (by rw[z];exact .head _)) e') k2 k3 (e▸(H.pS.aB U λc O=>j9 λz=>out.ps c O (by rw[z];exact .tail _ (.tail _ (.head _)))).repl k4) (H.tB.aB U λc O=>j9 λz=>sp.p2 (by rw[<- z];exact O)) (H.pm.set (k6.trans pw.symm) k7) λc O=>?_
  rcases fW O with q | q
  ·exact .inl q
  ·rw[q];exact .inr k5
 ·k_extra"bg"
  k_extra"w";refine A.m (by k_extra"#") ?_
  have t1:f8 (.int y) 0 ((v.B.length:Int)-1)=true:=r9 (by exact D0) (by exact yH hy)
  have t2:(x5 (.str w)&&f8 (.int i) (0-1000000000) 1000000000)=true:=by rw[r9 (i:=i) (by exact i0) i1,Bool.and_true];exact Z w S
  refine uF p.N (p.dd (by decide)) F A nz H.Y.lu zz (Atm.int _ |>.cld _).ok (.str (vM (Z w S))) (Atm.int _ |>.cld _).ok (λq=>r7 q t1) (λf q=>r7 q t2) λf f y' R i' K c e1 e2 e3 f f f hu' O=>?_
  k_extra"cq";obtain rfl:w=R:=V.str.inj e2;clear e2;obtain rfl:i=i':=V.int.inj e3;clear e3;obtain rfl:u=K:=d7 (hu.symm.trans hu');exact⟨H.Y.uz u mu,Y',λfa L z=>p.h (h fa L c (cV _ (cA O)) z)⟩
theorem Rw(N:Nm g)(F:FG o.rh o.tc o.C o.ow o.rk)(H:SdAt o M s v)(out:AllR s v (·∉s.W))(sp:SepW s){c:Nat}{b:Bool}(L:y<v.B.length)(O:(c:Int)<o.C):∃ U Ja,DeedOK g o s v (.tup [.str "take",.int y,.int c,.bool b]) U Ja:=by
 have R:=bO L;generalize v.B[y]'L=t at R;have I:=H.Y.tz t (cA R);have Z:=H.Y.zz;have el:(v.B.set y (t.set c b)).length=v.B.length:=dZ;refine⟨v.U,v.B.set y (t.set c b),⟨by rw[el];exact H.Y.lu,H.Y.gp,H.Y.uz,λE P=>?_,by rw[el];exact Z⟩,el,H.k4,fun{D τ Q X} hD H nz h=>?_,fun{D τ Q X} hD A nz h=>?_⟩
 ·rcases fW P with q | q
  ·exact H.Y.tz E q
  ·rw[q,dZ];exact I
 ·refine a7 (H.tB.get (j:=y) (x:=t.map .bool) (by rw[bW,R];rfl)) λa Ma S=>?_
  have K:=cA Ma;have e:(v.B.set y (t.set c b)).map (·.map V.bool)=(v.B.map (·.map V.bool)).set y ((t.set c b).map .bool):=lX
  have Y:a∈s.W:=.tail _ (.tail _ (.tail _ (cU _ (cU _ K))));refine bR8 N hD H.hT Ma S (bJ9 O I) (vB I F.c8) (bN (dK (cR L Z)) (by decide)) (h _ v.ps v.S (e8.upd (.tail _ K)) (nz.upd N2) (p8 H.hP λz=>sp.p2 (by rw[z];exact K)) ((H.pS.aB (e8.upd (A:=[a]) (.head _))) λc O=>j9 λz=>out.ps c O (by rw[z];exact Y)) (e▸H.tB.set sp.nt Ma _) H.pm λc O=>.inl O)
 ·k_extra"bg"
  k_extra"w";refine A.m (by k_extra"#") ?_
  have t2:=r9 (D0) (eZ O);refine uX p.N (p.dd (by decide)) F A nz H.Y (Atm.int _ |>.cld _).ok (Atm.int _ |>.cld _).ok (λq=>r7 q (r9 (D0) (yH L))) (λf q=>r7 q t2) λf f y' T E a e1 C P Ma w u z=>?_
  k_extra"cq";obtain rfl:c=T:=Int.ofNat.inj (V.int.inj C);clear C;obtain rfl:t=E:=d7 (R.symm.trans P);exact p.h (h w u a (cU _ (cA Ma)) z)
theorem Yl(N:Nm g)(F:FG o.rh o.tc o.C o.ow o.rk)(K:o.W4.length<=4)(A:∀ x∈o.W4,m9 x=true)(H:SdAt o M s v)(out:AllR s v (·∉s.W))(sp:SepW s)(G:GoodD v.B.length o.C o.W4 dd):∃ q c,DeedOK g o s v dd q c:=by
 cases G with
 | put L S u Y=>exact Lx N F K A H out sp L S u Y
 | take L O=>exact Rw N F H out sp L O
end
theorem wF(f:Fl l)(c:1<=d){Q:VP}(h:Q (.bool false) M):EqL true d l l M Q:=by
 have e:=SeqAt.eqvAll_refl _ (E8 f.fl);refine EqL.mk f.fl f.fl (by have:=f.de;rw[oK];lia) ?_
 rw[e];exact h
theorem Fl.prs{u:List (Str×Int)}(h:∀ p∈u,m9 p.1=true):Fl (u.map tS):=.of λx hx=>by
 refine a7 (cD.mp hx) λc hc qa=>?_;subst qa
 refine⟨?_,cO 1⟩;show(PyData.strOk c.1&&(true&&true))=true;rw[(Ep (h c hc)).1.strOk];rfl
theorem Fl.bools{T:List Bool}:Fl (T.map .bool):=.of λx U=>by refine a7 (cD.mp U) λc N Ja=>?_;subst Ja;exact⟨rfl,cP _⟩
theorem Fl.row:Fl (rwV f m y):=.of λx U=>by unfold rwV at U;refine a7 (cD.mp U) λc N Ja=>?_;subst Ja;exact⟨rfl,cP _⟩
theorem Ed:nzL (rwV f m y)=true:=v7 λx U=>by unfold rwV at U;refine a7 (cD.mp U) λc N Ja=>?_;subst Ja;rfl
section
variable{g:G}{o:Fo}{K:Kt}{q r:Addr->Prop}{v:Bool->Sv}{Q:V->Hp->Prop}
theorem Wd.imp(W:Wd o K q M v qs)(h:∀ a,q a->r a):Wd o K r M v qs:=W.dm λa N=>h a
theorem Wd.hl(W:Wd o K q M v qs)(b:Bool):∀ a∈(K.s b).W,a≠K.hl:=λa Ma e=>W.hw b (by rw[<- e];exact Ma)
theorem rG(N:Nm g)(hD:1<=D)(W:Wd o K q M v qs)(hq:∀ a,q a->a≠w)(of:Out K w)(T:M w=some (.L l))(fl:Fl l)(lz:l.length<=9000)(I:nzL l=true)(x:∀ a,q a->r a)(rf:r w)(S:∀ a,M a=none->r a)(A:qs.length<9000)
  (h:∀ M' F,Wd o K r M' v F->e8 [K.hl,w] M M'->F.length<=qs.length+1->Q .none M'):d8 g D true "_law_kept" [.ref K.hl,.ref w,.int k] M Q X:=by
 refine Zg N hD W.hd.hh T (by rw[bQ];exact bN (dK A) (by decide)) lz I (λb a Y Ma=>?_) λH L=>?_
 ·have C:=j4 (Sub.upd Y) Ma
  have O:=W.out Y;have Ja:=W.out C;have s1:Sub M (upd (upd M b (.L l)) a (.L [.ref w,.ref b])):=(Sub.upd Y).trans (Sub.upd Ma);have kp:∀ {c},c≠K.hl->Kp M (upd (upd (upd M b (.L l)) a (.L [.ref w,.ref b])) K.hl (.L (qs.map .ref++[.ref a]))) c:=λhc U e=>by rw[e9 _ _ hc];exact s1 _ _ e
  have W:=W.imp x;have kh:∀ {c},Out K c->c≠K.hl:=λh=>h.2.2
  refine h _ (qs++[a]) ⟨W.kt.kp λc hc=>kp (kh (W.oc c hc).1),λu=>(W.sd u).kp (P9 λc hc=>kp (W.hl u c hc)) ((W.ro u).imp λc hc=>kp (kh hc.1)),⟨by rw[d6,cG];rfl,λc hc=>?_⟩,((W.nz.upd (o:=.L l) I).upd rfl).upd ?_,W.oc,W.ro,W.wo,W.qh,W.dj,W.hw,W.sp,by rw[cC];exact A⟩ (λc U hc e=>?_) (by rw[cC];exact cO _)
  ·k_extra"bH"
   ·exact uQ (W.hd.pr c z) λu Z H E e2 e3 f P R y=>⟨u,Z,H,kp (kh P.1) _ E,kp (kh R.1) _ e2,kp (kh y.1) _ e3,f,P,R,y⟩
   ·rw[bV.mp z]
    refine⟨w,b,l,?_,kp (kh of) _ T,?_,fl,⟨Ja,S a C⟩,⟨of,rf⟩,⟨O,S b Y⟩⟩
    ·rw[e9 _ _ (kh Ja)];exact d6 _ _ _
    ·rw[e9 _ _ (kh O)];exact g9 (d6 _ _ _) Ma
  ·have:=D3 (l:=qs++[a]);rw[cG] at this;exact this
  ·exact kp (λz=>hc (by rw[z];exact .head _)) _ e
 ·refine h _ qs ((W.kp (λa Ma U e=>by rw[e9 _ _ (hq a Ma)];exact e) (W.nz.upd (o:=.L H) L)).imp x) (e8.upd (.tail _ (.head _))) (iZ _)
end
section
variable{g:G}{n':Nat}{QQ:VP}{K:KT}{s:List V}{J:Lo}
theorem Cj{B:KT}{C:List Nat}(p:Pk pq tab g n' QQ XX cx){f:Nat->Nat->Int}(Ma:M R=some (.L (rs.map .ref)))(E:PAt M rs (k8 f m n))(Ja:j<m)(L:n<=8)
  (Z:∀ T,Pb pq tab n' T->∀ a l x,M a=some (.L l)->l[j]?=some x->(∀ S,T.Q (.ret x) S M)->B T [] (some (.ref a)::s7 J C) M)
  (h:∀ b,M b=none->K cx (.ref b::s) J (upd M b (.L (((cY n).map λy=>f y j).map .int)))):CLoop B K C (rs.map .ref) (λM=>M R=some (.L (rs.map .ref))) cx s J M:=by
 have w:rs.length=n:=by rw[E.len,G8]
 refine CLoop.g p (λu A M'=>M=M'/\∃ d1 d2,rs=d1++d2/\u=d2.map .ref/\A=((cY d1.length).map λy=>f y j).map .int) (by rw[bQ];exact Bj L w) ⟨rfl,[],rs,rfl,rfl,rfl⟩ (λcx p v u A F H=>?_) ?_
 ·clear H;rintro _ hh;k_extra"4"
  refine⟨Ma,?_⟩;cases d2 with
  | nil=>cases e2
  | cons c d2=>
   k_extra"8";subst qb
   have hc:rs[d1.length]?=some c:=by rw[e1,eX (cO _),ji];rfl
   have q:=(cj.mp hc).1;exact Z cx p c _ _ (E.at' hc (H3 (w▸q))) (pZ Ja) λS=>F ⟨rfl,d1++[c],d2,by rw[e1,dB];rfl,rfl,by rw[cC,iT,gJ,cG,cG];rfl⟩
 ·rintro A _ hh;k_extra"4"
  refine⟨Ma,λa I=>?_⟩
  k_extra"E"
  rw[dC] at e1;have:=h a I;rw[<- w,e1] at this;exact this
end
section
variable{g:G}{o:Fo}{K:Kt}{v:Bool->Sv}{Q:V->Hp->Prop}
theorem Gb{n:Int}(h:0<n):∃ y:Nat,a%n=y/\(y:Int)<n:=by
 exact d4 (dI (fV a (jR h))) λy e=>⟨y,e,e▸gq a h⟩
theorem Ir(N:Nm g)(hD:4<=D)(kc:KtC o K)(W:Wd o K (·≠st) M v qs)(E:Dm M st)(b:Bool){w:Int}(ql:qs.length<8990)
  (h:∀ M' O,Wd o K (·≠st) M' v O->e8 [K.hl] M M'->O.length<=qs.length+2->Q (.bool true) M') :
  d8 g D true "_law_looked" [.ref (K.s b).x,.ref K.hl,.int w,.ref (K.s b).m,.int o.ow] M Q X:=by
 refine bd N bb6 (by k_extra"b") hD λcx p=>?_
 have H:=W.sd b;have F:=kc.F;have hm:=H.hm;have hP:=H.hP;have hR:=H.hR;have hT:=H.hT;have zz:=H.Y.zz;have n1:=H.n1;k_extra"aU"
 obtain⟨y,ey,hy⟩:=Gb (a:=w / 4) (n:=(((v b).ps.map V.ref).length:Int)) (by exact cc6 n1 lp)
 have hy:y<(v b).B.length:=by exact yM lp hy
 refine a7 (H.rR.get (H3 hy)) λa ea ha=>?_
 have qa:((v b).rs.map V.ref)[y]?=some (.ref a):=by rw[bW,ea];rfl
 have R:(rwV (o.f (v b).U (v b).B) o.rh.length y).length=o.rh.length:=sJ;have l1:=F.l1;have L:=F.l40;obtain⟨l,el,hl⟩:=Gb (a:=w / 64) (n:=((rwV (o.f (v b).U (v b).B) o.rh.length y).length:Int)) (by exact Qf R l1)
 have hl:l<o.rh.length:=by exact yM R hl
 have t1:f8 (.int (w / 4%(((v b).ps.map V.ref).length:Int))) 0 (((v b).B.length:Int)-1)=true:=by rw[ey];exact r9 (by exact D0) (by exact Hw lp (by assumption))
 have t2:f8 (.int (w / 64%((rwV (o.f (v b).U (v b).B) o.rh.length y).length:Int))) 0 ((o.rh.length:Int)-1)=true:=by rw[el];exact r9 (by exact D0) (by exact Hw R (by assumption))
 have fin:=h M qs W e8.refl (eG _ _);k_extra"6"
 k_extra"w"
 ·refine H.A.m (by k_extra"#") (uN p.N (p.dd (by decide)) H.A zz L (Atm.int _ |>.cld _).ok (Atm.int _ |>.cld _).ok (λq=>r7 q t1) (λi q=>r7 q t2) λi i y' l' e1 e2=>?_)
  k_extra"an";obtain rfl:l=l':=Int.ofNat.inj (el.symm.trans (V.int.inj e2));k_extra"c1"
  k_extra"6"
  k_extra"w";exact i8 l _ el (pZ hl) (by exact bN (dK (cJ.mp (by assumption))) (bN (cu R) (bN L (by decide)))) (p.b (beq_self_eq_true _) fin)
 ·refine H.A.m (by k_extra"#") (Hj p.N (p.dd (by decide)) H.A zz L (Atm.int _ |>.cld _).ok (λq=>r7 q t1) λi y' fa e1 i Ja=>?_)
  k_extra"an";k_extra"6"
  k_extra"w";refine wF Fl.row (p.dd (by decide)) ?_
  k_extra"w";have fs:fa≠st:=λe=>by refine d4 E λU z=>?_;rw[<- e,Ja] at z;cases z
  have s1:Sub M (upd M fa (.L (rwV (o.f (v b).U (v b).B) o.rh.length y))):=Sub.upd Ja;have W2:=(W.dm (q':=λc=>c≠st/\c≠fa) λc d q=>⟨q,λe=>by refine d4 d λU z=>?_;rw[e,Ja] at z;cases z⟩).kp (λc i U e=>s1 _ _ e) (W.nz.upd (o:=.L (rwV (o.f (v b).U (v b).B) o.rh.length y)) Ed)
  refine rG p.N (p.dd (by decide)) W2 (λc q=>q.2) (W.out Ja) (d6 M fa (.L (rwV (o.f (v b).U (v b).B) o.rh.length y))) Fl.row (by exact bN (cu R) (bN L (by decide))) Ed (λc q=>q.1) fs (λc q e=>by refine d4 E λU z=>?_;rw[e,s1 _ _ z] at q;cases q) (by exact Ea ql) λM' O W' S' q'=>?_
  k_extra"w";refine p.h (h M' O W' (λc U q e=>S' c U (λz=>?_) (s1 _ _ e)) (by exact jl q'))
  k_extra"X"
  ·k_extra"cy"
  ·rw[bV.mp z,Ja] at e;cases e
 ·refine H.A.m (by k_extra"#") (Dh p.N (p.dd (by decide)) F H.A zz ?_)
  k_extra"c1"
  k_extra"w";refine Cj p hR H.rR (j:=o.ow.toNat) (by have:=F.o1;have:=F.o0;lia) zz (λcx p c l x hc hx k=>?_) λc hc=>?_
  ·k_extra"w"
   exact i8 _ _ (dN F.o0).symm hx (by have:=F.o1;have:=F.o0;exact Ih L (by assumption)) (k _)
  ·refine SumL.mk _ (d6 _ _ _) (p.r (Sub.upd hc) ?_)
   rw[beq_self_eq_true];exact fin
 ·refine H.A.m (by k_extra"#") (zU p.N (p.dd (by decide)) H.A H.Y F.c8 (H.u4 (by rw[kc.e4,gZ];exact eQ ..)) (Atm.int _ |>.cld _).ok (λq=>r7 q t1) λi y' u t ps Ma I e1 hu ht Z h2 hp1 hp2=>?_)
  k_extra"an";have C:y<(v b).S.length:=by rw[H.pm.len];exact(cj.mp hu).1
  have hs:=bO C;generalize (v b).S[y]'C=sq at hs;refine d5 (H.pm.pm hs hu) λm1 m2=>?_
  obtain rfl:ps=sq:=JN hp1 hp2 m1 m2;obtain⟨a1,q1,w1⟩:=H.pS.get (j:=y) (x:=ps.map tS) (by rw[bW,hs];rfl)
  obtain⟨a2,q2,w2⟩:=H.tB.get (j:=y) (x:=t.map .bool) (by rw[bW,ht];rfl)
  have s1:Sub M (upd (upd M Ma (.L (ps.map tS))) I (.L (t.map .bool))):=(Sub.upd Z).trans (Sub.upd h2);have f1:=g9 (o:=.L (t.map .bool)) (d6 M Ma (.L (ps.map tS))) h2;have P:=d6 (upd M Ma (.L (ps.map tS))) I (.L (t.map .bool));have S:M I=none:=j4 (Sub.upd Z) h2;have nb:Ma≠I:=j8 (d6 M Ma (.L (ps.map tS))) h2;have Y:=(W.nz.upd (a:=Ma) (R6 (u:=ps))).upd (a:=I) (N2 (T:=t));generalize upd (upd M Ma (.L (ps.map tS))) I (.L (t.map .bool))=τ at s1 f1 P Y ⊢;have g2:=s1 _ _ w2;have hm:=s1 _ _ hm;have hP:=s1 _ _ hP;have hT:=s1 _ _ hT;have mu:=cA hu;have fp:Fl (ps.map tS):=Fl.prs λq hq=>(H.Y.gp u mu).wd q (m1.mem_iff.mp hq)
  have pz:ps.length<=1000:=by rw[m1.length_eq];exact H.Y.uz u mu
  have c8:=F.c8;have ds:∀ {c},τ c=none->c≠st:=fun{c} q e=>by refine d4 E λU z=>?_;rw[e,s1 _ _ z] at q;cases q
  have ns:∀ {c},M c=none->c≠st:=fun{c} q e=>by refine d4 E λU z=>?_;rw[e,z] at q;cases q
  k_extra"w";refine i8 y _ ey (by rw[bW,q1];rfl) (by exact X7 zz lp (by assumption)) ?_
  k_extra"w";refine i8 y _ ey (by rw[bW,q2];rfl) (by exact X7 zz lp (by assumption)) ?_
  refine EqT.refs Ma I a1 a2 _ _ rfl rfl f1 P (s1 _ _ w1) g2 fp.fl Fl.bools.fl (by have:=fp.de;have:=p.d;exact FT (by assumption) this) (by have:=(Fl.bools (T:=t)).de;have:=p.d;exact FT (by assumption) this) rfl ?_
  k_extra"w";have W2:=(W.dm (q':=λc=>(c≠st/\c≠I)/\c≠Ma) λc d q=>⟨⟨q,λe=>by refine d4 d λU z=>?_;rw[e,S] at z;cases z⟩,λe=>by refine d4 d λU z=>?_;rw[e,Z] at z;cases z⟩).kp (λc i U e=>s1 _ _ e) Y
  refine rG (r:=λc=>c≠st/\c≠I) p.N (p.dd (by decide)) W2 (λc q=>q.2) (W.out Z) f1 fp (by rw[bQ];exact bN pz (cT ..)) R6 (λc q=>q.1) ⟨ns Z,nb⟩ (λc q=>⟨ds q,λe=>by rw[e,P] at q;cases q⟩) (by exact Ea ql) λM1 qs1 W3 S3 l3=>?_
  have P:=S3 _ _ (λz=>by
   k_extra"X"
   ·exact(W.out S).2.2 z
   ·exact nb (bV.mp z).symm) P
  k_extra"w";refine rG (r:=(·≠st)) p.N (p.dd (by decide)) W3 (λc q=>q.2) (W.out S) P Fl.bools (by rw[bQ];exact cZ.mp (cQ (jM (H.Y.tz t (cA ht))) (cQ c8 (by decide)))) N2 (λc q=>q.1) (ns S) (λc q e=>?_) (by exact dq l3 (cR (lJ ql) (by decide))) λM2 qs2 W4 S4 l4=>?_
  ·refine d4 E λU z=>?_
   rw[e,S3 _ _ (λA=>?_) (s1 _ _ z)] at q;cases q
   rcases bR.mp A with A | A
   ·exact W.qh A.symm
   ·exact ns Z (bV.mp A).symm
  ·k_extra"w"
   refine p.h (h M2 qs2 W4 (λc U q e=>S4 c U (λz=>?_) (S3 c U (λz=>?_) (s1 _ _ e))) (by exact bN l4 (fQ l3 _)))
   ·k_extra"X"
    ·k_extra"cy"
    ·rw[bV.mp z,S] at e;cases e
   ·k_extra"X"
    ·k_extra"cy"
    ·rw[bV.mp z,Z] at e;cases e
end
theorem K6{c:Type}(f:Bool->c):[f false,f true][(b2i b).toNat]?=some (f b):=by cases b<;>rfl
theorem FZ(Y:0<=r)(Z:r<2):∃ b:Bool,r=((b2i b).toNat:Int):=by
 by_cases q:r=0
 ·exact⟨false,q⟩
 ·exact⟨true,by show r=1;lia⟩
theorem sI:(b2i b).toNat<=100:=by cases b<;>decide
theorem GP.perm{s:List (Str×Int)}(h:GP u)(p:s.Perm u):GP s:=⟨by rw[G5];exact(p.map _).nodup_iff.mpr (G5▸h.nd),λq c=>h.wd q (p.mem_iff.mp c),λq c=>h.lo q (p.mem_iff.mp c),λq c=>h.hi q (p.mem_iff.mp c)⟩
noncomputable def U9(v:Bool->Sv)(b:Bool)(w:Sv):Bool->Sv:=λc=>bif c==b then w else v c
section
variable{g:G}{o:Fo}{K:Kt}{q:Addr->Prop}{v:Bool->Sv}{Q:V->Hp->Prop}
theorem WrS.re(Z:WrS st zq M):WrS st M M:=⟨e8.refl,Z.nz,Z.hst⟩
theorem Wd.sta(W:Wd o K (·≠st) M v qs)(k:e8 [st] M M')(nz:NZ M'):Wd o K (·≠st) M' v qs:=W.kp (λa Ma U e=>k a U (j9 Ma) e) nz
theorem V8(N:Nm g)(hD:1<=D)(W:Wd o K (·≠st) M v qs)(Z:WrS st M M)(c:0<k)(x:k<2 ^ 60)(h:∀ r τ,0<=r->r<k->Wd o K (·≠st) τ v qs->WrS st τ τ->Q (.int r) τ):d8 g D true "_law_next" [.ref st,.int k] M Q X:=
 u6 N hD Z c x λr τ u r1 Z S=>h r τ u r1 (W.sta S Z.nz) Z.re
theorem Wd.op(W:Wd o K q τ v qs)(S:e8 (K.s b).W τ M')(nz:NZ M')(H:SdAt o M' (K.s b) w)(R:AllR (K.s b) w (λa=>Out K a/\q a)):Wd o K q M' (U9 v b w) qs:=by
 have u:∀ {a},Out K a->a∉(K.s b).W:=fun{a} h=>by cases b;exact h.1;exact h.2.1
 have k:∀ {a},a∉(K.s b).W->Kp τ M' a:=λh U e=>S _ U h e
 refine⟨W.kt.kp λa Ma=>k (u (W.oc a Ma).1),λc=>?_,W.hd.kp (k (W.hw b)) λa Ma=>k (u Ma.1),nz,W.oc,λc=>?_,W.wo,W.qh,W.dj,W.hw,W.sp,W.ql⟩
 ·unfold U9
  cases e:c==b with
  | true=>rw[eq_of_beq e];exact H
  | false=>
   have e:c = !b:=by cases c<;>cases b<;>first | rfl | clear S;clear H;cases e
   refine(W.sd c).kp (P9 λa Ma=>k ?_) ((W.ro c).imp λa Ma=>k (u Ma.1))
   have:=W.dj c a Ma;rw[e,oG] at this;exact this
 ·unfold U9
  cases e:c==b with
  | true=>rw[eq_of_beq e];exact R
  | false=>exact W.ro c
end
def rSt(K:Kt)(o:Fo)(st:Addr)(A F C u E y R U c x w:Option V):Lo:=[some (.ref K.fl),some (.ref K.ml),some (.ref K.hl),some (.ref st),some (.ref K.pt),some o.fm,some (.ref K.rw),A,F,C,u,E,y,R,U,c,x,w]
def LkJ(o:Fo)(K:Kt)(st:Addr)(v:Bool->Sv)(n:Nat)(H I C u E y R U c:Option V)(i:Nat)(S:Lo)(M':Hp):Prop:=
 ∀ F:Prop,(∀ (qs:List Addr) (x w:Option V) (W:Wd o K (·≠st) M' v qs) (Z:WrS st M' M') (A:qs.length<=n+2*i) (e:S=rSt K o st H I C u E y R U c x w),F)->F
section
variable{g:G}{o:Fo}{K:Kt}{v:Bool->Sv}{Q:V->Hp->Prop}
theorem Cy(p:Pk pq tab g 20 Q X cx)(kc:KtC o K)(W:Wd o K (·≠st) M v qs)(Z:WrS st M M)(ql:qs.length<8950)(h:∀ M' u,Wd o K (·≠st) M' v u->u.length<=qs.length+8->Q (.bool true) M'){A E F U:Option V}:Aw.w true l7 cx [] (rSt K o st T Y C A E F R U c x w) M:=by
 k_extra"w";refine V8 p.N (p.dd (by decide)) W Z (by decide) (by decide) λr τ r0 r1 W Z=>d4 (dI r0) λr qa=>?_
 subst qa;k_extra"w";refine x2 p (LkJ o K st v qs.length T Y C A E F R U c) (λz_ S=>S qs x w W Z (cO _) rfl) (λcx p hB i hi hJ=>?_) ?_
 ·k_extra"b2"
  k_extra"K";k_extra"w";refine V8 p.N (p.dd (by decide)) W Z (by decide) (by decide) λr2 τ2 h0 h1 W Z=>d4 (FZ h0 h1) λb eb=>?_
  have hf:=W.kt.hf;k_extra"ap"
  k_extra"w";refine V8 p.N (p.dd (by decide)) W Z (by decide) (by decide) λr3 τ3 _ _ W Z=>?_
  have hm:=W.kt.hm;have hp:=W.kt.hp;k_extra"b1"
  k_extra"w";refine f5 Z.hst λz O z0 z1=>Ir p.N (p.dd (by decide)) kc W ⟨_,O⟩ b (by exact bc2 ql r1 hi y) λL I P S' l'=>?_
  have Z':WrS st L L:=⟨e8.refl,P.nz,z,S' _ _ (j9 λe=>W.qh e.symm) O,z0,z1⟩
  k_extra"w";exact hJ (λz_ S=>S I _ _ P Z' (by exact bN l' (fQ y _)) rfl)
 ·k_extra"b2"
  k_extra"w";exact p.h (h M' u W (zq5 r1 y))
end
theorem DsAt.has(h:DsAt M cs U)(hc:c∈cs):∃ l,M c=some (.ds l):=by
 obtain⟨j,hj,rfl⟩:=ig hc;exact⟨_,h.at' (bO hj) (bO (h.len▸hj))⟩
section
variable{g:G}{o:Fo}{K:Kt}{v:Bool->Sv}{Q:V->Hp->Prop}{q:Addr->Prop}
theorem Out.nw(h:Out K a):a∉(K.s b).W:=by
 cases b with
 | false=>exact h.1
 | true=>exact h.2.1
theorem SdAt.nm{s:Sd}{v:Sv}(H:SdAt o τ s v)(sp:SepW s)(a:Addr)(ha:a∈s.P::s.ts):a≠s.d/\a≠s.m/\∀ c∈s.pds++s.mks,a≠c:=by
 have k:∃ l,τ a=some (.L l):=by
  rcases bR.mp ha with e | e
  ·rw[e];exact⟨_,H.hP⟩
  ·refine a7 (H.tB.has e) λx N e=>?_;exact⟨_,e⟩
 refine d4 k λl k=>⟨r6 k H.A.hd (show(0:Nat)≠5 by decide),λe=>?_,λc hc e=>?_⟩
 ·rw[e] at ha
  rcases bR.mp ha with z | z
  ·exact sp.mP z
  ·exact sp.m2 z
 ·k_extra"bH"
  ·exact d4 (H.A.pd.has z) λw u=>r6 k u (show(0:Nat)≠2 by decide) e
  ·rcases bR.mp ha with y | y
   ·rw[<- e,y] at z;exact sp.p1 z
   ·rw[e] at y;exact sp.mt c z y
theorem uq{L:List V}{B:List (List V)}(x:e8 (P::u) τ Y)(F:Y P=some (.L L))(c:PAt Y u B){a:Addr}(e:Y a=none):τ a=none:=by
 by_cases ha:a∈P::u
 ·exfalso
  rcases bR.mp ha with z | z
  ·rw[z,F] at e;cases e
  ·exact c.no e z
 ·cases w:τ a with
  | none=>rfl
  | some U=>rw[x _ _ ha w] at e;cases e
theorem Wd.deed(W:Wd o K q τ v qs)(Y':Yrs o.C L y)(len:y.length=(v b).B.length)(k4:∀ u∈L,∀ p∈u,p.1∈o.W4)(qn:∀ a,τ a=none->q a)
  {E:Hp}{A:Addr}(S1:e8 ((K.s b).P::(K.s b).ts) τ Y) (F:Y (K.s b).P=some (.L (Ja.map .ref))) (pS1:PAt Y Ja (S'.map (·.map tS))) (tB1:PAt Y (K.s b).ts (y.map (·.map .bool))) (pm1:PmU S' L) (S:∀ a∈Ja,a∈(v b).ps∨τ a=none)
  (s3:Sub Y E) (T:E A=some (.L (C.map .ref))) (pla:PAt E C (k8 (o.f L y) o.rh.length y.length)) (O:Y A=none) (P:∀ c∈C,Y c=none)
  (hc:c∈(K.s b).pds++(K.s b).mks) (S4:e8 [(K.s b).d,c] E x) (n4:NZ x) (A4:FlAt x o.fm (K.s b).x (K.s b).d (K.s b).pa (K.s b).ma rb (K.s b).pds (K.s b).mks cs L y (k8 (o.f L y) o.rh.length y.length)) (nw:∀ a∈w::rb::cs,E a=none) (fb:w≠rb) (fc:w∉cs) :
  Wd o K (λa=>q a/\a≠w) (upd x (K.s b).m (.L [.ref (K.s b).P,.ref (K.s b).T,.ref A])) (U9 v b ⟨rb,A,cs,C,Ja,L,S',y⟩) qs:=by
 have H:=W.sd b;have sp:=W.sp b;have nd:∀ {a},Y a=none->τ a=none:=uq S1 F tB1;have oR:=(W.ro b).imp λa Ma=>Ma.1
 have dW:=(W.sd b).dW.all;have Z:=P9 (s:=K.s b) (q:=(·∈(K.s b).W)) λa Ma=>Ma
 have cW:c∈(K.s b).W:=.tail _ (.tail _ (.tail _ (by
  k_extra"bH"
  ·exact cV _ z
  ·exact cU _ (cV _ z))))
 have k5:∀ {a},a≠(K.s b).d->a≠c->a≠(K.s b).m->Kp E (upd x (K.s b).m (.L [.ref (K.s b).P,.ref (K.s b).T,.ref A])) a:=λh1 h2 h3 o' e=>by
  rw[e9 _ _ h3];exact S4 _ _ (λz=>by
   k_extra"X"
   ·exact h1 z
   ·exact h2 (bV.mp z)) e
 have kO:∀ {a},a∉(K.s b).W->Kp E (upd x (K.s b).m (.L [.ref (K.s b).P,.ref (K.s b).T,.ref A])) a:=λh=>k5 (λz=>h (z▸Z.d)) (λz=>h (z▸cW)) (λz=>h (z▸Z.m))
 have kS:e8 (K.s b).W τ (upd x (K.s b).m (.L [.ref (K.s b).P,.ref (K.s b).T,.ref A])):=λa o' h e=>kO h _ (s3 _ _ (S1 _ _ (λz=>h (by
  k_extra"X"
  ·rw[z];exact Z.P
  ·exact Z.ts _ z)) e))
 have kP:∀ {a},a∈(K.s b).P::(K.s b).ts->Kp E (upd x (K.s b).m (.L [.ref (K.s b).P,.ref (K.s b).T,.ref A])) a:=fun{a} Ma=>by
  exact i4 (H.nm sp a Ma) λz1 z2 z3=>k5 z1 (z3 c hc) z2
 have nf:=nd (j4 s3 (nw _ (.head _)));have R:∀ a∈rb::cs,τ a=none:=λa Ma=>nd (j4 s3 (nw _ (.tail _ Ma)))
 have or:∀ {a},τ a=none->Out K a:=λh=>W.out h
 have W':Wd o K (λa=>q a/\a≠w) τ v qs:=W.dm λa d h=>⟨h,λz=>by refine d4 d λo' e=>?_;rw[z,nf] at e;cases e⟩
 have fq:∀ {a o'},E a=some o'->a≠w:=λe z=>by rw[z,nw _ (.head _)] at e;cases e
 have rR:=W'.ro b;have I:∀ {a},a≠(K.s b).m->Kp x (upd x (K.s b).m (.L [.ref (K.s b).P,.ref (K.s b).T,.ref A])) a:=λh o' e=>by rw[e9 _ _ h];exact e
 have U:∀ {a},a∉(K.s b).W->Kp x (upd x (K.s b).m (.L [.ref (K.s b).P,.ref (K.s b).T,.ref A])) a:=λh=>I λz=>h (z▸Z.m)
 have ops:∀ a∈Ja,Out K a:=λa Ma=>by
  rcases S a Ma with z | z
  ·exact oR.ps a z
  ·exact or z
 refine W'.op kS (n4.upd rfl) ⟨?_,d6 _ _ _,kP (.head _) _ (s3 _ _ F),kS _ _ oR.T.nw H.hT,kO (or (nd O)).nw _ T,(pS1.sub s3).kp λa Ma=>kO (ops a Ma).nw,(tB1.sub s3).kp λa Ma=>kP (.tail _ Ma),pla.kp λa Ma=>kO (or (nd (P a Ma))).nw,Y',by rw[len];exact H.n1,pm1,k4⟩ ⟨rR.x,rR.pa,rR.ma,rR.T,?_,?_,λa Ma=>?_,λa Ma=>?_,λa Ma=>?_⟩
 ·refine A4.kp (U oR.x.nw) (I (r6 H.hm H.A.hd (show(0:Nat)≠5 by decide)).symm) (U oR.pa.nw) (U oR.ma.nw) (U (or (R _ (.head _))).nw) (λa Ma=>I λz=>?_) (λa Ma=>I λz=>sp.m1 (z▸Ma)) (λa Ma=>U (or (R _ (.tail _ Ma))).nw)
  exact d4 (H.A.pd.has Ma) λl' k'=>r6 k' H.hm (show(2:Nat)≠0 by decide) z
 ·exact⟨or (R _ (.head _)),qn _ (R _ (.head _)),fb.symm⟩
 ·exact⟨or (nd O),qn _ (nd O),fq T⟩
 ·exact⟨or (R _ (.tail _ Ma)),qn _ (R _ (.tail _ Ma)),λz=>fc (z▸Ma)⟩
 ·exact a7 (pla.has Ma) λl' N e=>⟨or (nd (P a Ma)),qn _ (nd (P a Ma)),fq e⟩
 ·refine a7 ((pS1.sub s3).has Ma) λl' N e=>?_
  rcases S a Ma with z | z
  ·exact rR.ps a z
  ·exact⟨or z,qn _ z,fq e⟩
theorem bl1{F:Nat}{E:KT}{s:List V}{J:Lo}(p:Pk pq tab g F QQ H cx)(T:M w=some (.L (chg f y m n)))(hz:(chg f y m n).length<=10000)(h:∀ b,M b=none->E cx (.ref b::s) J (upd M b (.L []))):CLoop ((IC.t (.not (.of (.isi (.v 0) .tuple))) (.v 0)).w true) E [] (chg f y m n) (λM=>M w=some (.L (chg f y m n))) cx s J M:=by
 refine CLoop.g p (λc A M'=>M=M'/\A=[]/\∀ x∈c,∃ i j:Int,x=.tup [.int i,.int j]) hz ⟨rfl,rfl,λx hx=>wW hx⟩ (λcx p v c A I hN=>?_) ?_
 ·rintro _ u;refine i4 u λJa C hr=>?_;clear u;subst Ja;rw[C] at I hN
  refine⟨T,?_⟩;refine j7 (hr v (.head _)) λi j Ja=>?_;subst Ja
  k_extra"b3"
 ·rintro A _ u;refine i4 u λJa C N=>?_;clear u;subst Ja;subst C
  exact⟨T,λa Ma=>h a Ma⟩
end
theorem rY(Z:a≠x)(S:a≠y):a∉[x,y]:=λz=>by
 k_extra"X"
 ·exact Z z
 ·exact S (bV.mp z)
section
variable{g:G}{o:Fo}{K:Kt}{v:Bool->Sv}{Q:V->Hp->Prop}{q:Addr->Prop}
theorem SdAt.ne_m{s:Sd}{v:Sv}(H:SdAt o τ s v)(sp:SepW s):s.m≠s.d/\∀ c∈s.pds++s.mks,s.m≠c:=by
 refine⟨r6 H.hm H.A.hd (show(0:Nat)≠5 by decide),λc hc e=>?_⟩
 k_extra"bH"
 ·exact d4 (H.A.pd.has z) λw u=>r6 H.hm u (show(0:Nat)≠2 by decide) e
 ·exact sp.m1 (e▸z)
set_option tactic.hygienic true in
theorem VD{KK:KT}(p:Pk pq tab g 20 Q X cx)(kc:KtC o K){A:List (List (Str×Int))}(W:Wd o K (·≠st) τ v qs)(Z:WrS st τ τ)(U:DeedOK cx.g o (K.s b) (v b) dd A T)(S1:e8 ((K.s b).P::(K.s b).ts) τ Y)(nz1:NZ Y)(C:Y (K.s b).P=some (.L (ps'.map .ref)))(pS1:PAt Y ps' (S'.map (·.map tS)))(S:PAt Y (K.s b).ts (T.map (·.map .bool)))(R:PmU S' A)(fr1:∀ a∈ps',a∈(v b).ps∨τ a=none)(ql:qs.length<8950)(eb:r=((b2i b).toNat:Int))
  (h:∀ M' v' qs' c13 c14 c15,Wd o K (·≠st) M' v' qs'->WrS st M' M'->qs'.length<=qs.length+1->KK cx [] (rSt K o st (some (.int r)) (some (.ref (K.s b).m)) a9 a10 a11 (some dd) c13 c14 c15 a16 a17) M') :
  Ia.w true KK cx [] (rSt K o st (some (.int r)) (some (.ref (K.s b).m)) a9 a10 a11 (some dd) a13 a14 a15 a16 a17) Y:=by
 have H:=W.sd b;have F:=kc.F;have sp:=W.sp b;have zz:=H.Y.zz;have l40:=F.l40;have oR:=(W.ro b).imp λa Ma=>Ma.1.nw (b:=b)
 have mW:=P9 (s:=K.s b) (q:=(·∈(K.s b).W)) λa Ma=>Ma
 have kP:∀ {a},a∉(K.s b).W->Kp τ Y a:=λh o' e=>S1 _ o' (λz=>h (by
  k_extra"X"
  ·rw[z];exact mW.P
  ·exact mW.ts _ z)) e
 have kN:∀ {a},a∉(K.s b).P::(K.s b).ts->Kp τ Y a:=λh o' e=>S1 _ _ h e
 have hm1:=kN (λz=>(H.nm sp _ z).2.1 rfl) _ H.hm
 have hT1:=kP oR.T _ H.hT;have hR1:=kP oR.R _ H.hR;have kt1:=W.kt.kp λa Ma=>kP (W.oc a Ma).1.nw
 have hf1:=kt1.hf;have len:=U.len;have lU:=U.Y.lu;have nu:∀ u∈A,(u.map (·.1)).Nodup:=λu hu=>G5▸(U.Y.gp u hu).nd
 have sU:∀ s∈S',∃ u∈A,s.Perm u:=λs hs=>by
  obtain⟨j,hj,rfl⟩:=ig hs;have hu:=bO (R.len▸hj);exact⟨_,cA hu,(R.pm (bO hj) hu).1⟩
 k_extra"w";refine Hi p.N (p.dd (by decide)) F kt1.hr kc.tp kc.ol ⟨C,hT1,pS1,S,(R.len.trans lU),λs hs=>?_,λs hs=>?_,U.Y.tz,by exact Bp zz len⟩ nz1 λM2 la lcs s2 n2 hla pla wla wl=>?_
 ·refine a7 (sU s hs) λu hu hp=>?_;exact(U.Y.gp u hu).perm hp
 ·refine a7 (sU s hs) λu hu hp=>?_;rw[hp.length_eq];exact U.Y.uz u hu
 rw[cl7 F.lnk R nu lU,len] at pla;have hm2:=s2 _ _ hm1;have pR2:PAt M2 (v b).rs _:=(H.rR.kp λc hc=>kP (oR.rs c hc)).sub s2
 k_extra"w";refine Yq p.N (p.dd (by decide)) (s2 _ _ hR1) hla pR2 pla l40 zz λda E=>?_
 have s3:Sub Y (upd M2 da (.L (chg (o.f (v b).U (v b).B) (yF o.rh o.tc o.rk A T) o.rh.length (v b).B.length))):=s2.trans (Sub.upd E);have n3:=n2.upd (a:=da) (uv (f:=o.f (v b).U (v b).B) (g:=yF o.rh o.tc o.rk A T) (m:=o.rh.length) (n:=(v b).B.length));have I:=d6 M2 da (.L (chg (o.f (v b).U (v b).B) (yF o.rh o.tc o.rk A T) o.rh.length (v b).B.length));have L:=g9 (o:=.L (chg (o.f (v b).U (v b).B) (yF o.rh o.tc o.rk A T) o.rh.length (v b).B.length)) hla E;have x:=pla.sub (Sub.upd (o:=.L (chg (o.f (v b).U (v b).B) (yF o.rh o.tc o.rk A T) o.rh.length (v b).B.length)) E);have dn:Y da=none:=j4 s2 E;generalize upd M2 da (.L (chg (o.f (v b).U (v b).B) (yF o.rh o.tc o.rk A T) o.rh.length (v b).B.length))=M3 at s3 n3 I L x ⊢;clear pla hla hm2 pR2 s2 n2 E;have hf3:=s3 _ _ hf1;have hm3:=s3 _ _ hm1;k_extra"ap"
 have k1:∀ {a},a∉(K.s b).P::(K.s b).ts->Kp τ M3 a:=λh o' e=>s3 _ _ (kN h o' e)
 have k2:∀ {a},a∉(K.s b).W->Kp τ M3 a:=λh o' e=>s3 _ _ (kP h o' e)
 have A3:=H.A.kp (k2 oR.x) (k1 λz=>(H.nm sp _ z).1 rfl) (k2 oR.pa) (k2 oR.ma) (k2 oR.ra) (λc hc=>k1 λz=>(H.nm sp _ z).2.2 c (cV _ hc) rfl) (λc hc=>k1 λz=>(H.nm sp _ z).2.2 c (cU _ hc) rfl) (λc hc=>k2 (oR.rws c hc))
 refine U.told (p.dd (by decide)) A3 n3 λfa M4 c hc z=>z _ ?_
 clear z;rintro rb cs S4 n4 A4 hf4 nw4 fb fc;rw[<- len] at x;refine f5 Z.hst λzs est zs0 zs1=>?_
 have y:st∉(K.s b).W:=λz=>(W.wo b).all _ z rfl
 have W1:=W.deed U.Y len U.k4 (λa Ma=>(j8 est Ma).symm) S1 C pS1 S R fr1 s3 L x wl wla hc S4 n4 A4 nw4 fb fc
 have cW:c∈(K.s b).W:=.tail _ (.tail _ (.tail _ (by
  k_extra"bH"
  ·exact cV _ z
  ·exact cU _ (cV _ z))))
 have hst4:=S4 st _ (rY (a:=st) (λz=>y (z▸mW.d)) (λz=>y (z▸cW))) (k2 y _ est)
 have hm4:=S4 _ _ (rY (H.ne_m sp).1 ((H.ne_m sp).2 c hc)) hm3;have daW:da∉(K.s b).W:=(W.out (uq S1 C S dn)).nw;have hda4:=S4 da _ (rY (a:=da) (λz=>daW (z▸mW.d)) (λz=>daW (z▸cW))) I
 rw[len] at hf4;have w:=p8 (o:=.L [.ref (K.s b).P,.ref (K.s b).T,.ref la]) hf4 ((W1.wo b).m.2).symm;have hda5:=p8 (o:=.L [.ref (K.s b).P,.ref (K.s b).T,.ref la]) hda4 (λz=>daW (z▸mW.m))
 have O:=p8 (o:=.L [.ref (K.s b).P,.ref (K.s b).T,.ref la]) hst4 (λz=>y (z▸mW.m))
 have cl:(chg (o.f (v b).U (v b).B) (yF o.rh o.tc o.rk A T) o.rh.length (v b).B.length).length<=320:=bN vo (nC zz l40);have fst:=(j8 (k2 y _ est) (nw4 _ (.head _))).symm;have of:=W.out (uq S1 C S (j4 s3 (nw4 _ (.head _))));clear hf4 hda4 hst4;k_extra"w";refine(?_:ISs.w _ true KK cx [] _ (upd M4 (K.s b).m (.L [.ref (K.s b).P,.ref (K.s b).T,.ref la])));generalize upd M4 (K.s b).m (.L [.ref (K.s b).P,.ref (K.s b).T,.ref la])=M5 at W1 w hda5 O ⊢;generalize U9 v b ⟨rb,la,cs,lcs,ps',A,S',T⟩=v1 at W1;clear S4 n4 A4 nw4 fb fc hc cW hm4 hm3 hf3 x L I s3 n3 A3 k1 k2 hT1 hR1 hm1 kN kP S1 nz1 C pS1 S fr1 kt1 hf1 wl wla dn;k_extra"w";refine wF Dz (p.dd (by decide)) ?_
 k_extra"w";refine bl1 p w (bN cl (cT ..)) λba hba=>?_
 have W2:=W1.kp (λa _=>Sub.upd (o:=.L []) hba a) (W1.nz.upd (o:=.L []) rfl)
 have Ja:=g9 (o:=.L []) w hba;have P:=g9 (o:=.L []) O hba;have hba6:=d6 M5 ba (.L []);generalize upd M5 ba (.L [])=M6 at W2 Ja P hba6 ⊢;clear w O W1 hda5;k_extra"w";rename_i xa hxa;refine Gm (p.dd (by decide)) ?_
 have W3:=W2.kp (λa _=>Sub.upd (o:=.L []) hxa a) (W2.nz.upd (o:=.L []) rfl)
 have hfa7:=g9 (o:=.L []) Ja hxa;have hst7:=g9 (o:=.L []) P hxa;generalize upd M6 xa (.L [])=M7 at W3 hfa7 hst7 ⊢;clear Ja P W2 hba6;k_extra"w";refine u6 p.N (p.dd (by decide)) (zq:=M7) ⟨e8.refl,W3.nz,zs,hst7,zs0,zs1⟩ (by decide) (by decide) λr3 M8 _ _ Z8 S8=>?_
 have W4:=W3.kp (λa Ma o' e=>S8 a o' (j9 Ma.1) e) Z8.nz
 have hfa8:=S8 _ _ (j9 fst) hfa7;refine f5 Z8.hst λz8 est8 z80 z81=>?_
 k_extra"w";refine rG p.N (p.dd (by decide)) W4 (r:=(·≠st)) (λa Ma=>Ma.2) of hfa8 Dz (bN cl (cT ..)) uv (λa Ma=>Ma.1) fst (λa Ma=>(j8 est8 Ma).symm) (bN ql (cT ..)) λM9 qs9 W9 S9 l9=>?_
 k_extra"w";exact h M9 v1 qs9 _ _ _ W9 ⟨e8.refl,W9.nz,z8,S9 _ _ (rY W9.qh.symm fst.symm) est8,z80,z81⟩ l9
theorem J8(N:Nm g)(hD:21<=D)(u:KtC o K)(W:Wd o K (·≠st) M v qs)(Z:WrS st M M)(A:qs.length<8940)(h:∀ M' v' y,Wd o K (·≠st) M' v' y->y.length<=qs.length+9->Q (.bool true) M'):d8 g D true "_law_step" [.ref K.fl,.ref K.ml,.ref K.hl,.ref st,.ref K.pt,o.fm,.ref K.rw] M Q X:=by
 refine bd N YD (by k_extra"b") hD λcx p=>?_
 k_extra"w";refine V8 p.N (p.dd (by decide)) W Z (by decide) (by decide) λr τ r0 r1 W Z=>d4 (FZ r0 r1) λb eb=>?_
 have F:=u.F;have hml:=W.kt.hm;have hp:=W.kt.hp;have hl:=W.kt.hl;have ht:=W.kt.ht;have hm:=(W.sd b).hm;have hP:=(W.sd b).hP;have H:=W.sd b;k_extra"aU"
 have n1:=H.n1;have zz:=H.Y.zz;have l40:=F.l40;have t5:=F.t5;k_extra"b1"
 k_extra"w";refine V8 p.N (p.dd (by decide)) W Z (by decide) (by decide) λr2 τ2 _ _ W Z=>?_
 have hp:=W.kt.hp;have S:=W.kt.hw;k_extra"w"
 ·cases c:K.ws with
  | nil=>have:=u.w5;rw[c] at this;exact absurd this (by decide)
  | cons wd wt=>
   rw[c] at S;rw[lp];refine bU5 p.N (p.dd (by decide)) (n:=(v b).B.length) (m:=o.rh.length) (C:=o.C) (wt:=wt.map .str) Z S (W.oc _ (.tail _ (.tail _ (.tail _ (.tail _ (.tail _ (.head _))))))).2 (.str (vM (u.ww wd (by rw[c];exact .head _)))) n1 zz λM3 ga O I=>?_
   have E:=W.sta O.aB O.nz;have hf:=E.kt.hf;refine v9 I λdd w e B hga=>?_
   k_extra"ap"
   k_extra"w";refine Lz p.N (p.dd (by decide)) F (E.sd b).A E.nz H.Y (H.u4 ?_) B ?_
   ·rw[u.e4];exact oE _ _
   k_extra"w";exact Stop.mk (Cy p u E O.re (by exact Hz A) λM' y P Ma=>h M' v y P (by exact jl Ma))
 ·rw[lp]
  refine bU3 p.N (p.dd (by decide)) (n:=(v b).B.length) (C:=o.C) Z S (W.oc _ (.tail _ (.tail _ (.tail _ (.tail _ (.tail _ (.head _))))))).2 u.w5 u.w8 n1 zz F.c8 λM3 dd O I=>?_
  rw[<- u.e4] at I;have E:=W.sta O.aB O.nz;have hm3:=(E.sd b).hm;obtain⟨U',B',DK⟩:=Yl p.N F (by rw[u.e4];exact oE _ _) (λx hx=>u.ww x (gO (by rw[<- u.e4];exact hx))) (E.sd b) ((E.ro b).imp λa ha=>ha.1.nw) (E.sp b) I
  k_extra"w";refine DK.noted (p.dd (by decide)) (E.sd b) E.nz λM4 ps' S' S4 R L T Y U Ja=>?_
  k_extra"w";exact Stop.mk (VD p u E O.re DK S4 R L T Y U Ja (by exact Hz A) eb λM5 v5 qs5 j j j W5 Z5 l5=>Stop.mk (Cy p u W5 Z5 (by exact dq l5 (cR (lJ A) (by decide))) λM' y P Ma=>h M' v5 y P (by exact bN Ma (fQ l5 _))))
end
structure BgAt(o:Fo)(M:Hp)(n:Nat)(m P T R:Addr)(ts rs ps:List Addr):Prop where
 hm:M m=some (.L [.ref P,.ref T,.ref R])
 hP:M P=some (.L (ps.map .ref))
 hT:M T=some (.L (ts.map .ref))
 hR:M R=some (.L (rs.map .ref))
 pS:PAt M ps (bY n [])
 tB:PAt M ts (bY n ((bY o.C.toNat false).map .bool))
 rR:PAt M rs (k8 (o.f (bY n []) (bY n (bY o.C.toNat false))) o.rh.length n)
 mP:m≠P
 m2:m∉ts
 p2:P∉ts
 nt:ts.Nodup
 out:∀ a∈T::R::(rs++ps),a≠m/\a≠P/\a∉ts
section
variable{g:G}{o:Fo}{Q:V->Hp->Prop}{r:Addr}{O:List Int}
set_option tactic.hygienic true in
theorem Gu(N:Nm g)(hD:13<=D)(F:FG o.rh o.tc o.C o.ow o.rk)(hr:M r=some (.L (O.map .int)))(tp:Tp o.rh O)(ol:O.length=o.rh.length)(Z:WrS st M M)(hrs:r≠st)
  (h:∀ M' n m P T R ts rs ps,1<=n->n<=8->WrS st M M'->BgAt o M' n m P T R ts rs ps->(∀ a∈m::P::T::R::(ts++(rs++ps)),M a=none)->Q (.ref m) M'):d8 g D true "_law_begun" [o.fm,.ref r,.ref st,.int o.C] M Q X:=by
 refine bd N bU8 (by k_extra"b") hD λcx p=>?_
 have c0:=F.c0;have c8:=F.c8;k_extra"w";refine u6 p.N (p.dd (by decide)) Z (by decide) (by decide) λr1 τ U r11 Z _=>?_
 k_extra"w";refine u6 p.N (p.dd (by decide)) Z (by decide) (by decide) λr2 τ _ _ Z _=>?_
 k_extra"w";have hb:∀ {b:Bool},0<=b2i b/\b2i b<2:=fun{b}=>by cases b<;>decide
 refine K9 (λv=>∃ n:Nat,v=.int n/\1<=n/\n<=8) hb.1 hb.2 (λv hv=>?_) λv hv=>?_
 ·rcases bR.mp hv with q | q
  ·exact⟨(1+r1).toNat,by rw[dN (jY (by decide) U)];exact q,by exact Ej U,by exact iJ.mpr (cQ (Int.add_le_add_left (gV r11) 1) (by decide))⟩
  ·exact⟨8,bV.mp q,by decide,by decide⟩
 refine f5 hv λn qa n1 n8=>?_;clear hv;subst qa
 k_extra"w";refine vU (x:=[]) p n8 Z.nz rfl (λcx p v M' k=>?_) λM2 P ps s2 nz2 p2 d2 w2 mm2 A=>?_
 ·k_extra"w"
  rename_i b hb;exact k _ b _ (Sub.refl _) id hb
 k_extra"w";refine vU (x:=(bY o.C.toNat false).map .bool) p n8 nz2 N2 (λcx p v M' k=>?_) λM3 T ts s3 nz3 S d3 w3 mm3 E=>?_
 ·k_extra"w"
  k_extra"br"
 have u:=xq (C:=o.C) (n:=n) c0 n8;k_extra"w";refine Hi p.N (p.dd (by decide)) F (s3 _ _ (s2 _ _ (Z.aB _ _ (j9 hrs) hr))) tp ol (Us:=bY n []) (Ts:=bY n (bY o.C.toNat false)) ⟨s3 _ _ A,E,by rw[iz];exact p2.sub s3,by rw[iz];exact S,u.lu,u.gp,u.uz,u.tz,bN u.zz (by decide)⟩ nz3 λJa R rs y nz4 H p4 w4 wR=>?_
 rw[dG,sS (by rw[dG];exact cO _) (by rw[dG];exact cO _)] at p4
 k_extra"w";rename_i m w;refine f5 Z.hst λk L k0 k1=>?_
 have Y:Sub τ (upd Ja m (.L [.ref P,.ref T,.ref R])):=((s2.trans s3).trans y).trans (Sub.upd w);have I:∀ {a},τ a=none->M a=none:=λe=>G9 Z.aB L e
 have K:Sub Ja (upd Ja m (.L [.ref P,.ref T,.ref R])):=Sub.upd w;have Ma:=y _ _ (s3 _ _ A);have nP:∀ {a},M2 a=none->a≠P:=λe=>(j8 A e).symm
 refine p.h (h _ n m P T R ts rs ps n1 n8 ⟨λc o' q e=>Y _ _ (Z.aB c o' q e),nz4.upd rfl,k,Y _ _ L,k0,k1⟩ ⟨d6 _ _ _,K _ _ Ma,K _ _ (y _ _ E),K _ _ H,((p2.sub s3).sub y).sub K,(S.sub y).sub K,p4.sub K,(j8 Ma w).symm,(S.sub y).no w,λq=>nP (w3 P (.tail _ q)) rfl,d3,λa ha=>?_⟩ λa ha=>?_)
 ·k_extra"V"
  ·rw[q];exact⟨j8 (y _ _ E) w,nP (w3 T (.head _)),mm3⟩
  k_extra"V"
  ·rw[q];exact⟨j8 H w,nP (j4 s3 wR),S.no wR⟩
  rcases cz.mp ha with q | q
  ·exact⟨λz=>p4.no w (z▸q),nP (j4 s3 (w4 a q)),S.no (w4 a q)⟩
  ·exact⟨λz=>((p2.sub s3).sub y).no w (z▸q),λz=>mm2 (z▸q),λz=>p2.no (w3 a (.tail _ z)) q⟩
 ·k_extra"V"
  ·rw[q];exact I (j4 ((s2.trans s3).trans y) w)
  k_extra"V"
  ·rw[q];exact I (w2 P (.head _))
  k_extra"V"
  ·rw[q];exact I (j4 s2 (w3 T (.head _)))
  k_extra"V"
  ·rw[q];exact I (j4 (s2.trans s3) wR)
  rcases cz.mp ha with q | ha
  ·exact I (j4 s2 (w3 a (.tail _ q)))
  rcases cz.mp ha with q | q
  ·exact I (j4 (s2.trans s3) (w4 a q))
  ·exact I (w2 a (.tail _ q))
end
theorem FlAt.out{E D:Addr}(A:FlAt M fm x d E D L w c y U T R):∀ a∈x::E::D::L::y,a≠d/\a∉w/\a∉c:=by
 have k:∀ {a l},M a=some (.L l)->a∉c->a≠d/\a∉w/\a∉c:=λe h=>⟨r6 e A.hd (show(0:Nat)≠5 by decide),λz=>by
  refine d4 (A.pd.has z) λC u=>?_
  exact r6 e u (show(0:Nat)≠2 by decide) rfl,h⟩
 intro a ha;k_extra"V"
 ·rw[q]
  refine⟨r6 A.hx A.hd (show(4:Nat)≠5 by decide),λz=>?_,λz=>?_⟩
  ·exact d4 (A.pd.has z) λC u=>r6 A.hx u (show(4:Nat)≠2 by decide) rfl
  ·exact a7 (A.mb.has z) λC N u=>r6 A.hx u (show(4:Nat)≠0 by decide) rfl
 k_extra"V"
 ·rw[q];exact k A.hp A.a1
 k_extra"V"
 ·rw[q];exact k A.hm A.a2
 k_extra"V"
 ·rw[q];exact k A.hr A.a3
 ·exact a7 (A.ro.has ha) λC N u=>k u (A.a4 a ha)
structure Tm(t:Addr->Nat)(K:Kt)(v:Bool->Sv):Prop where
 c:∀ a∈[K.pt,K.pl,K.tl,K.wl,K.rw],t a=0
 ml:t K.ml=3
 fl:t K.fl=6
 hl:t K.hl=7
 g1:∀ b,∀ a∈(K.s b).m::(K.s b).P::(K.s b).T::(v b).R::((K.s b).ts++((v b).rs++(v b).ps)),t a=bif b then 2 else 1
 g2:∀ b,∀ a∈(K.s b).x::(K.s b).d::(K.s b).pa::(K.s b).ma::(v b).ra::((K.s b).pds++((K.s b).mks++(v b).rws)),t a=bif b then 5 else 4
section
variable{o:Fo}{K:Kt}{v:Bool->Sv}{t:Addr->Nat}
theorem Tm.nw(H:Tm t K v)(Z:t a=(bif b then 2 else 1)->a≠(K.s b).m/\a≠(K.s b).P/\a∉(K.s b).ts)(S:t a=(bif b then 5 else 4)->a≠(K.s b).d/\a∉(K.s b).pds/\a∉(K.s b).mks):a∉(K.s b).W:=by
 have c:=H.g1 b;have x:=H.g2 b;refine λha=>?_
 k_extra"e"
 ·exact(S (x a (by rw[e];exact .tail _ (.head _)))).1 e
 k_extra"e"
 ·exact(Z (c a (by rw[e];exact .head _))).1 e
 k_extra"e"
 ·exact(Z (c a (by rw[e];exact .tail _ (.head _)))).2.1 e
 k_extra"b9"
 ·exact(S (x a (.tail _ (.tail _ (.tail _ (.tail _ (.tail _ (cV _ e)))))))).2.1 e
 k_extra"cp"
 ·exact(S (x a (.tail _ (.tail _ (.tail _ (.tail _ (.tail _ (cU _ (cV _ e))))))))).2.2 e
 ·exact(Z (c a (.tail _ (.tail _ (.tail _ (.tail _ (cV _ e))))))).2.2 e
theorem Tm.wt(H:Tm t K v)(Ma:a∈(K.s b).W):t a=(bif b then 2 else 1)∨t a=(bif b then 5 else 4):=eF λh=>H.nw (b:=b) (a:=a) (λe=>absurd (.inl e) h) (λe=>absurd (.inr e) h) Ma
theorem Tm.no(H:Tm t K v)(e:t a=n)(Z:n≠1:=by decide)(S:n≠2:=by decide)(X:n≠4:=by decide)(E:n≠5:=by decide):a∉(K.s b).W:=λMa=>by
 subst e;cases b with
 | false=>exact(H.wt Ma).elim Z X
 | true=>exact(H.wt Ma).elim S E
theorem XD(H:Tm t K v)(C:KtAt o K M)(y:∀ b,SdAt o M (K.s b) (v b))(nz:NZ M)(A:M K.hl=some (.L []))
  (q:∀ b,(K.s b).m≠(K.s b).P) (D:∀ b,(K.s b).m∉(K.s b).ts) (F:∀ b,(K.s b).P∉(K.s b).ts) (E:∀ b,(K.s b).ts.Nodup) (out:∀ b,∀ a∈(K.s b).T::(v b).R::((v b).rs++(v b).ps),a≠(K.s b).m/\a≠(K.s b).P/\a∉(K.s b).ts):Wd o K (λN=>True) M v []:=by
 have no7:∀ {a n},t a=n->n≠7->a≠K.hl:=λe h z=>h (by rw[<- e,z];exact H.hl)
 have I:∀ {b a},a∈(K.s b).T::(v b).R::((v b).rs++(v b).ps)->t a=bif b then 2 else 1:=fun{b a} ha=>H.g1 b a (by
  k_extra"e"
  ·rw[e];exact .tail _ (.tail _ (.head _))
  k_extra"e"
  ·k_extra"cL"
  ·exact .tail _ (.tail _ (.tail _ (.tail _ (cU _ ha)))))
 have w:∀ {b a},a∈(K.s b).T::(v b).R::((v b).rs++(v b).ps)->Out K a/\True:=fun{b a} ha=>by
  have e:=I ha;have n:=H.nw (λN=>out b a ha) (λz=>by rw[e] at z;cases b<;>cases z)
  cases b with
  | false=>exact⟨⟨n,λz=>by rcases H.wt z with z | z<;>(rw[e] at z;cases z),no7 e (by decide)⟩,trivial⟩
  | true=>exact⟨⟨λz=>by rcases H.wt z with z | z<;>(rw[e] at z;cases z),n,no7 e (by decide)⟩,trivial⟩
 have Ja:∀ {b a},a∈(K.s b).x::(K.s b).pa::(K.s b).ma::(v b).ra::(v b).rws->t a=bif b then 5 else 4:=fun{b a} ha=>H.g2 b a (by
  k_extra"e"
  ·rw[e];exact .head _
  k_extra"e"
  ·rw[e];exact .tail _ (.tail _ (.head _))
  k_extra"e"
  ·k_extra"cL"
  k_extra"e"
  ·rw[e];exact .tail _ (.tail _ (.tail _ (.tail _ (.head _))))
  ·exact .tail _ (.tail _ (.tail _ (.tail _ (.tail _ (cU _ (cU _ ha)))))))
 have u:∀ {b a},a∈(K.s b).x::(K.s b).pa::(K.s b).ma::(v b).ra::(v b).rws->Out K a/\True:=fun{b a} ha=>by
  have e:=Ja ha;have n:=H.nw (λz=>by rw[e] at z;cases b<;>cases z) (λN=>(y b).A.out a ha)
  cases b with
  | false=>exact⟨⟨n,λz=>by rcases H.wt z with z | z<;>(rw[e] at z;cases z),no7 e (by decide)⟩,trivial⟩
  | true=>exact⟨⟨λz=>by rcases H.wt z with z | z<;>(rw[e] at z;cases z),n,no7 e (by decide)⟩,trivial⟩
 have mk:∀ {b a},a∈(K.s b).mks->t a=bif b then 5 else 4:=fun{b a} ha=>H.g2 b a (.tail _ (.tail _ (.tail _ (.tail _ (.tail _ (cU _ (cV _ ha)))))))
 have x:∀ {b a},a∈(K.s b).mks->¬ t a=bif b then 2 else 1:=fun{b a} ha z=>by rw[mk ha] at z;cases b<;>cases z
 refine⟨C,y,⟨A,λa ha=>by cases ha⟩,nz,λa ha=>?_,λb=>⟨u (.head _),u (.tail _ (.head _)),u (.tail _ (.tail _ (.head _))),w (.head _),u (.tail _ (.tail _ (.tail _ (.head _)))),w (.tail _ (.head _)),λa ha=>u (.tail _ (.tail _ (.tail _ (.tail _ ha)))),λa ha=>w (.tail _ (.tail _ (cV _ ha))),λa ha=>w (.tail _ (.tail _ (cU _ ha)))⟩,λb=>⟨trivial,trivial,trivial,λN N=>trivial,λN N=>trivial,λN N=>trivial⟩,trivial,λb a ha=>?_,λb=>H.no H.hl,λb=>⟨q b,λz=>x z (H.g1 b _ (.head _)),D b,λz=>x z (H.g1 b _ (.tail _ (.head _))),F b,λc O z=>x O (H.g1 b _ (.tail _ (.tail _ (.tail _ (.tail _ (cV _ z)))))),E b⟩,cP _⟩
 ·k_extra"e"
  ·rw[e];exact⟨⟨H.no H.fl,H.no H.fl,no7 H.fl (by decide)⟩,trivial⟩
  k_extra"e"
  ·rw[e];exact⟨⟨H.no H.ml,H.no H.ml,no7 H.ml (by decide)⟩,trivial⟩
  ·have e:=H.c a ha
   exact⟨⟨H.no e,H.no e,no7 e (by decide)⟩,trivial⟩
 ·intro z
  have Z:=H.wt ha;have S:=H.wt z;cases b with
  | false=>rcases Z with Z | Z<;>rcases S with S | S<;>(rw[Z] at S;cases S)
  | true=>rcases Z with Z | Z<;>rcases S with S | S<;>(rw[Z] at S;cases S)
end
noncomputable def tmF:List Hp->Addr->Nat
 | [],_=>0
 | τ::l,a=>bif (τ a).isNone then tmF l a+1 else 0
theorem pK{l:List Hp}{a:Addr}{n:Nat}(h:τ a=none)(k:tmF l a=n):tmF (τ::l) a=n+1:=by
 unfold tmF;rw[h,k];rfl
theorem pX{l:List Hp}{a:Addr}(h:Dm τ a):tmF (τ::l) a=0:=by
 obtain⟨o,h⟩:=h;unfold tmF;rw[h];rfl
theorem aY4{K:Kt}{v:Bool->Sv}{x u t2 t3 t4 L y:Hp}(Y:∀ a,u a=none->x a=none)(O:∀ a,t2 a=none->u a=none)(P:∀ a,t3 a=none->t2 a=none)(R:∀ a,t4 a=none->t3 a=none)(S:∀ a,L a=none->t4 a=none)(U:∀ a,y a=none->L a=none)
  (c:∀ a∈[K.pt,K.pl,K.tl,K.wl,K.rw],Dm x a)
  (A:∀ a∈(K.s false).m::(K.s false).P::(K.s false).T::(v false).R::((K.s false).ts++((v false).rs++(v false).ps)),x a=none/\Dm u a)
  (E:∀ a∈(K.s true).m::(K.s true).P::(K.s true).T::(v true).R::((K.s true).ts++((v true).rs++(v true).ps)),u a=none/\Dm t2 a)
  (F:t2 K.ml=none/\Dm t3 K.ml)
  (w:∀ a∈(K.s false).x::(K.s false).d::(K.s false).pa::(K.s false).ma::(v false).ra::((K.s false).pds++((K.s false).mks++(v false).rws)),t3 a=none/\Dm t4 a)
  (q:∀ a∈(K.s true).x::(K.s true).d::(K.s true).pa::(K.s true).ma::(v true).ra::((K.s true).pds++((K.s true).mks++(v true).rws)),t4 a=none/\Dm L a)
  (I:L K.fl=none/\Dm y K.fl) (hl:y K.hl=none):Tm (tmF [x,u,t2,t3,t4,L,y]) K v:=by
 have H:∀ {a l n},u a=none->tmF l a=n->tmF (x::u::l) a=n+2:=λe k=>pK (Y _ e) (pK e k)
 have T:∀ {a l n},t2 a=none->tmF l a=n->tmF (x::u::t2::l) a=n+3:=λe k=>H (O _ e) (pK e k)
 have n3:∀ {a l n},t3 a=none->tmF l a=n->tmF (x::u::t2::t3::l) a=n+4:=λe k=>T (P _ e) (pK e k)
 have C:∀ {a l n},t4 a=none->tmF l a=n->tmF (x::u::t2::t3::t4::l) a=n+5:=λe k=>n3 (R _ e) (pK e k)
 have Ja:∀ {a l n},L a=none->tmF l a=n->tmF (x::u::t2::t3::t4::L::l) a=n+6:=λe k=>C (S _ e) (pK e k)
 exact⟨λa Ma=>pX (c a Ma),T F.1 (pX F.2),Ja I.1 (pX I.2),Ja (U _ hl) (pK hl rfl),λb=>by
  cases b with
  | false=>exact λa Ma=>pK (A a Ma).1 (pX (A a Ma).2)
  | true=>exact λa Ma=>H (E a Ma).1 (pX (E a Ma).2),λb=>by
  cases b with
  | false=>exact λa Ma=>n3 (w a Ma).1 (pX (w a Ma).2)
  | true=>exact λa Ma=>C (q a Ma).1 (pX (q a Ma).2)⟩
section
variable{g:G}{o:Fo}{Q:V->Hp->Prop}
theorem BgAt.dm{n:Nat}{m P T R:Addr}{c ps:List Addr}(H:BgAt o M n m P T R c rs ps):∀ a∈m::P::T::R::(c++(rs++ps)),Dm M a:=λa ha=>by
 k_extra"e"
 ·rw[e];exact⟨_,H.hm⟩
 k_extra"e"
 ·rw[e];exact⟨_,H.hP⟩
 k_extra"e"
 ·rw[e];exact⟨_,H.hT⟩
 k_extra"e"
 ·rw[e];exact⟨_,H.hR⟩
 k_extra"b9"
 ·exact H.tB.dm a e
 k_extra"cp"
 ·exact H.rR.dm a e
 ·exact H.pS.dm a e
theorem BgAt.kp{n:Nat}{m P T R:Addr}{c ps:List Addr}(H:BgAt o M n m P T R c rs ps)(k:∀ a∈m::P::T::R::(c++(rs++ps)),Kp M M' a):BgAt o M' n m P T R c rs ps:=
 ⟨k _ (.head _) _ H.hm,k _ (.tail _ (.head _)) _ H.hP,k _ (.tail _ (.tail _ (.head _))) _ H.hT,k _ (.tail _ (.tail _ (.tail _ (.head _)))) _ H.hR,H.pS.kp λa Ma=>k _ (.tail _ (.tail _ (.tail _ (.tail _ (cU _ (cU _ Ma)))))),H.tB.kp λa Ma=>k _ (.tail _ (.tail _ (.tail _ (.tail _ (cV _ Ma))))),H.rR.kp λa Ma=>k _ (.tail _ (.tail _ (.tail _ (.tail _ (cU _ (cV _ Ma)))))),H.mP,H.m2,H.p2,H.nt,H.out⟩
theorem FlAt.dm{fm:V}{x d w K L:Addr}{q c u:List Addr}{T:List (List Bool)}{R:List (List V)}(A:FlAt M fm x d w K L q c u U T R):∀ a∈x::d::w::K::L::(q++(c++u)),Dm M a:=λa ha=>by
 k_extra"e"
 ·rw[e];exact⟨_,A.hx⟩
 k_extra"e"
 ·rw[e];exact⟨_,A.hd⟩
 k_extra"e"
 ·rw[e];exact⟨_,A.hp⟩
 k_extra"e"
 ·rw[e];exact⟨_,A.hm⟩
 k_extra"e"
 ·rw[e];exact⟨_,A.hr⟩
 k_extra"b9"
 ·exact A.pd.dm a e
 k_extra"cp"
 ·exact A.mb.dm a e
 ·exact A.ro.dm a e
def FlN(o:Fo)(n:Nat)(τ:Hp)(x d:Addr)(M':Hp):Prop:=
 ∀ w:Prop,(∀ (y K L:Addr) (q c u:List Addr),FlAt M' o.fm x d y K L q c u (bY n []) (bY n (bY o.C.toNat false)) (k8 (o.f (bY n []) (bY n (bY o.C.toNat false))) o.rh.length n)->Sub τ M'->NZ M'->(∀ a∈x::d::y::K::L::(q++(c++u)),τ a=none)->w)->w
theorem zy(N:Nm g)(hD:16<=D)(F:FG o.rh o.tc o.C o.ow o.rk){n:Nat}{x d:Addr}(Z:1<=n)(H:n<=8)(nz:NZ τ)(q:τ d=none)(U:upd τ d (.na []) x=none)
  (h:∀ M',FlN o n τ x d M'->Q .none M'):d8 g D true "File.__init__" [.ref x,o.fm,.int n] (upd (upd τ d (.na [])) x (.ob "File" d)) Q X:=by
 have s1:Sub τ (upd (upd τ d (.na [])) x (.ob "File" d)):=(Sub.upd q).trans (Sub.upd U);refine bO3 N hD F Z H (d6 _ _ _) (g9 (o:=.ob "File" d) (d6 τ d (.na [])) U) ((nz.upd rfl).upd rfl) λM' Ma K L C u E A S y w=>h M' λz_ I=>I Ma K L C u E A (λc Ja e=>S c Ja (j9 (j8 e q)) (s1 _ _ e)) y λa ha=>?_
 k_extra"e"
 ·rw[e];exact j4 (Sub.upd q) U
 k_extra"e"
 ·rw[e];exact q
 ·exact j4 s1 (w a ha)
end
def rLw(K:Kt)(o:Fo)(sa:Addr)(a4 a8 a9:Option V):Lo:=[some (.ref sa),some (.ref K.pt),some o.fm,some (.ref K.rw),a4,some (.ref K.ml),some (.ref K.fl),some (.ref K.hl),a8,a9]
section
variable{g:G}{o:Fo}{K:Kt}{v:Bool->Sv}{Q:V->Hp->Prop}{q:Addr->Prop}{a4 a8 a9:Option V}
theorem bo9(p:Pk pq tab g 21 Q X cx)(W:Wd o K q M v qs)(h:∀ M',Q (.bool true) M'):Hy.w true l7 cx [] (rLw K o sa a4 a8 a9) M:=by
 have u:=W.hd.hh;k_extra"w";refine CLoop.g p (λw A M'=>M=M'/\A=[]/\∀ x∈w,∃ a∈qs,x=.ref a) (by rw[bQ];exact bN W.ql (cT ..)) ⟨rfl,rfl,λx hx=>by refine a7 (cD.mp hx) λa Ma e=>?_;exact⟨a,Ma,e.symm⟩⟩ (λcx p v w A F hN=>?_) ?_
 ·rintro _ u;refine i4 u λJa y hr=>?_;clear u;subst Ja;subst y
  refine⟨u,?_⟩;refine a7 (hr v (.head _)) λa Ma Ja=>?_;subst Ja
  refine x4 (W.hd.pr a Ma) λb c l E C D I N=>?_
  k_extra"w";refine wF I (p.dd (by decide)) ?_
  k_extra"b3"
 ·rintro A _ u;refine i4 u λJa y N=>?_;clear u;subst Ja;subst y
  refine⟨u,λb Y=>?_⟩
  k_extra"w";exact EqL.mk rfl rfl (qe (p.dd (by decide))) (p.h (h _))
set_option tactic.hygienic true in
theorem Yy(p:Pk pq tab g 21 Q X cx)(w:KtC o K)(W:Wd o K q M v qs)(h:∀ M',Q (.bool true) M'):xW.w true l7 cx [] (rLw K o sa a4 a8 a9) M:=by
 k_extra"w";rename_i A C;refine LoopR.tmp C (Loop.g p (λu S M'=>Wd o K q M' v qs/\(∀ x∈u,∃ b:Bool,x=.int ((b2i b).toNat:Int))/\∃ a9,S=rLw K o sa a4 a8 a9) ⟨W,λx U=>?_,_,rfl⟩ (λcx p Z v u E=>?_) ?_)
 ·rcases bR.mp U with e | e
  ·exact⟨false,e⟩
  ·exact⟨true,bV.mp e⟩
 ·rintro _ M y;obtain⟨W,I,a9,rfl⟩:=y
  k_extra"W";refine d4 (I v (.head _)) λb Ja=>?_;subst Ja
  have T:=W.kt.hf;have F:=W.kt.hm;have hp:=W.kt.hp;have H:=W.sd b;have R:=H.hm;have Ma:=H.hR;have P:=w.F.o1;have D:=w.F.o0;have L:=w.F.l40;k_extra"w";refine i8 _ _ rfl (K6 λb=>V.ref (K.s b).x) sI ?_
  refine H.A.m (by k_extra"#") ?_
  refine Dh p.N (p.dd (by decide)) w.F H.A H.Y.zz ?_
  k_extra"w";refine i8 _ _ rfl (K6 λb=>V.ref (K.s b).m) sI ?_
  k_extra"w";refine Cj p Ma H.rR (j:=o.ow.toNat) ((jK D).mpr P) H.Y.zz (λcx p c l x O U k=>?_) λc O=>?_
  ·k_extra"w"
   exact i8 _ _ (dN D).symm U (by lia) (k _)
  ·refine SumL.mk _ (d6 _ _ _) ?_
   k_extra"w";exact E ⟨W.kp (λa _=>Sub.upd O a) (W.nz.upd qH),λx U=>I x (.tail _ U),_,rfl⟩
 ·rintro _ M y;obtain⟨W,-,a9,rfl⟩:=y
  exact⟨trivial,Stop.mk (bo9 p W h)⟩
set_option tactic.hygienic true in
theorem Ss(p:Pk pq tab g 21 Q X cx)(P:Scr g sa ns)(hl:ns.length<=63)(R:KtC o K)(W:Wd o K (λ_=>True) M v [])(h:∀ M',Q (.bool true) M'):HY.w true l7 cx [] (rLw K o sa a4 a8 a9) M:=by
 have S:=p.e▸P;have F:(ns.map V.int).length=ns.length:=bQ _;k_extra"w";refine x2 p (λi I M'=>∃ (v:Bool->Sv) (qs:List Addr) (c E:Option V),Wd o K (λ_=>True) M' v qs/\qs.length<=9*i/\I=rLw K o sa c E a9) ⟨v,[],_,_,W,cP _,rfl⟩ (λcx p Z i O T=>?_) ?_
 ·k_extra"bW"
  have S:=p.e▸P;have O:3+i<ns.length:=NK F O;k_extra"w";refine Idx.mk (by lia) (by assumption) (by lia) λx e=>?_
  rw[bW] at e;refine a7 (cL.mp e) λy _ Ja=>?_;subst Ja
  k_extra"bj"
  k_extra"w";rename_i D C;have Ma:=(W.dm (q':=(·≠D)) λa d _ e=>by refine d4 d λU d=>?_;rw[e,C] at d;cases d).kp (λa _=>Sub.upd (o:=.L [.int z]) C a) (W.nz.upd (o:=.L [.int z]) rfl)
  refine J8 p.N (p.dd (by decide)) R Ma ⟨e8.refl,Ma.nz,z,d6 _ _ _,z0,z1⟩ (by lia) λL w H W2 Y=>?_
  k_extra"w";exact T ⟨w,H,_,_,W2.imp λ_ _=>trivial,by lia,rfl⟩
 ·k_extra"bW"
  exact Stop.mk (Yy p R W h)
end
noncomputable def rst(M:Hp)(l:List Addr):Hp:=λa=>bif l.contains a then M a else none
theorem Z7(h:a∈l):rst M l a=M a:=by unfold rst;rw[jH.mpr h];rfl
theorem Ao:Sub (rst M l) M:=λa o e=>by
 unfold rst at e;cases q:l.contains a with
 | true=>rw[q] at e;exact e
 | false=>rw[q] at e;cases e
theorem RP(h:∀ a∈l,∃ o,M a=some o/\nzO o=true):NZ (rst M l):=λa o e=>by
 have k:=Ao _ _ e;cases q:l.contains a with
 | true=>
  refine a7 (h a (jH.mp q)) λU c n=>?_
  rw[k] at c;rw[d7 c];exact n
 | false=>unfold rst at e;rw[q] at e;cases e
theorem Rf:PmU (bY n []) (bY n []):=⟨rfl,fun{j s u} E C=>by
 rw[(gG.mp (cA E)).2,(gG.mp (cA C)).2];exact⟨.refl _,.nil⟩⟩
theorem El{o:Fo}{K P T R:Addr}{w c y Ja ps:List Addr}(F:FG o.rh o.tc o.C o.ow o.rk)(O:1<=n)(E:n<=8)(B:BgAt o M' n m P T R Ja rs ps)(s1:Sub M' M)(A:FlAt L o.fm x d H K I w c y (bY n []) (bY n (bY o.C.toNat false)) (k8 (o.f (bY n []) (bY n (bY o.C.toNat false))) o.rh.length n))(s2:Sub L M) :
  SdAt o M ⟨x,d,H,K,m,P,T,w,c,Ja⟩ ⟨I,R,y,rs,ps,bY n [],bY n [],bY n (bY o.C.toNat false)⟩:=by
 have B:=B.kp λa N=>s1 a
 have e:(bY n (bY o.C.toNat false)).length=n:=dG;refine⟨?_,B.hm,B.hP,B.hT,B.hR,?_,?_,?_,xq F.c0 E,?_,Rf,λu Ma q C=>?_⟩
 ·show FlAt _ _ _ _ _ _ _ _ _ _ _ _ (k8 _ _ (bY n (bY o.C.toNat false)).length)
  rw[e];exact A.sub s2
 ·show PAt _ _ ((bY n []).map _)
  rw[iz];exact B.pS
 ·show PAt _ _ ((bY n (bY o.C.toNat false)).map _)
  rw[iz];exact B.tB
 ·show PAt _ _ (k8 _ _ (bY n (bY o.C.toNat false)).length)
  rw[e];exact B.rR
 ·show 1<=(bY n (bY o.C.toNat false)).length
  rw[e];exact O
 ·rw[(gG.mp Ma).2] at C;cases C
theorem N3{P:Bool->Prop}(Y:P false)(Z:P true)(b:Bool):P b:=by
 cases b with
 | false=>exact Y
 | true=>exact Z
section
variable{g:G}{Q:V->Hp->Prop}
set_option tactic.hygienic true in
theorem Oe(N:Nm g)(hD:22<=D)(hs:Scr g sa ns)(hl:ns.length<=63)(h:∀ M',Q (.bool true) M'):d8 g D true "law" [.ref sa] M Q X:=by
 refine bd N Ud (by k_extra"b") hD λcx p=>?_
 have hs':Scr cx.g sa ns:=p.e▸hs;k_extra"w";refine cm8 p.N (p.dd (by decide)) hs' (by exact Fz hl) (by decide) (by decide) λY pt pl tl wl y P ws C ow rk Ma u w Ja _ _ _ _ F l12 w5 w8 ww=>?_
 k_extra"w";refine WM p.N (p.dd (by decide)) u w F.bc ?_
 have FF:=F.bc;have nr:nzL y=true:=v7 λx hx=>yr 8 (FF.rule x hx).ok
 have nt:nzL P=true:=v7 λx hx=>Hv (F.tab x hx).1
 have ns1:nzL (ws.map V.str)=true:=v7 λx hx=>by refine a7 (cD.mp hx) λc _ qa=>?_;subst qa;rfl
 refine Drop.mk (M':=rst Y [pt,pl,tl,wl]) Ao ?_;have nz:NZ (rst Y [pt,pl,tl,wl]):=RP λa ha=>by
  k_extra"e"
  ·rw[e];exact⟨_,Ma,rfl⟩
  k_extra"e"
  ·rw[e];exact⟨_,u,nr⟩
  k_extra"e"
  ·rw[e];exact⟨_,w,nt⟩
  ·rw[bV.mp ha];exact⟨_,Ja,ns1⟩
 replace Ma:=(Z7 (M:=Y) (l:=[pt,pl,tl,wl]) (.head _)).trans Ma
 replace u:=(Z7 (M:=Y) (l:=[pt,pl,tl,wl]) (.tail _ (.head _))).trans u
 replace w:=(Z7 (M:=Y) (l:=[pt,pl,tl,wl]) (.tail _ (.tail _ (.head _)))).trans w
 replace Ja:=(Z7 (M:=Y) (l:=[pt,pl,tl,wl]) (.tail _ (.tail _ (.tail _ (.head _))))).trans Ja
 generalize rst Y [pt,pl,tl,wl]=M2 at nz Ma u w Ja ⊢;clear nr nt ns1 FF;k_extra"w";refine bs5 p.N (p.dd (by decide)) F λrv O hrw tp ol=>?_
 replace nz:=nz.upd (a:=rv) (o:=.L (O.map .int)) qH
 replace Ma:=g9 (o:=.L (O.map .int)) Ma hrw
 replace u:=g9 (o:=.L (O.map .int)) u hrw
 replace w:=g9 (o:=.L (O.map .int)) w hrw
 replace Ja:=g9 (o:=.L (O.map .int)) Ja hrw
 have hr:=d6 M2 rv (.L (O.map .int));generalize upd M2 rv (.L (O.map .int))=M3 at nz Ma u w Ja hr ⊢;have hs':Scr cx.g sa ns:=p.e▸hs;k_extra"w";refine GQ p.N (p.dd (by decide)) hs' (by exact Fz hl) (by decide) (by decide) λx=>?_
 k_extra"bj"
 k_extra"w";rename_i st hst;have k0:∀ {a o'},M3 a=some o'->upd M3 st (.L [.int z]) a=some o'/\a≠st:=λe=>⟨g9 e hst,j8 e hst⟩
 have a1:=k0 Ma;have a2:=k0 u;have a3:=k0 w;have a4:=k0 Ja;have q:=k0 hr;have est:=d6 M3 st (.L [.int z]);have nz0:=nz.upd (a:=st) (o:=.L [.int z]) rfl;generalize upd M3 st (.L [.int z])=t0 at a1 a2 a3 a4 q est nz0 ⊢;clear k0 Ma u w Ja hr nz hst;obtain⟨o,rfl,rfl,rfl,rfl,rfl,e4⟩:∃ o:Fo,o.rh=y/\o.tc=P/\o.C=C/\o.ow=ow/\o.rk=rk/\o.W4=ws.take 4:=⟨⟨y,P,C,ow,rk,ws.take 4⟩,rfl,rfl,rfl,rfl,rfl,rfl⟩;refine Gu p.N (p.dd (by decide)) F q.1 tp ol ⟨e8.refl,nz0,z,est,z0,z1⟩ q.2 λt1 n0 m0 P0 T0 R0 ts0 rs0 ps0 n01 n08 Z1 B0 w0=>?_
 have b1:=Z1.aB _ _ (j9 a1.2) a1.1;k_extra"w";refine Gu p.N (p.dd (by decide)) F (Z1.aB _ _ (j9 q.2) q.1) tp ol Z1.re q.2 λt2 n1 m1 P1 T1 R1 ts1 rs1 ps1 n11 n18 Z2 U w1=>?_
 have L:∀ a,a≠st->Kp t0 t2 a:=λa h o' e=>Z2.aB _ _ (j9 h) (Z1.aB _ _ (j9 h) e)
 have B0':BgAt o t2 n0 m0 P0 T0 R0 ts0 rs0 ps0:=B0.kp λa ha o' e=>Z2.aB _ _ (j9 (j8 est (w0 a ha)).symm) e
 have q1:=B0'.hm;have q2:=B0'.hP;have q3:=U.hm;have q4:=U.hP;have lp0:(ps0.map V.ref).length=n0:=by rw[bQ,B0.pS.len,dG]
 have lp1:(ps1.map V.ref).length=n1:=by rw[bQ,U.pS.len,dG]
 k_extra"w";rename_i ml hml;have ql:=d6 t2 ml (.L [.ref m0,.ref m1]);have S:Sub t2 (upd t2 ml (.L [.ref m0,.ref m1])):=Sub.upd hml;have nz3:=Z2.nz.upd (a:=ml) (o:=.L [.ref m0,.ref m1]) rfl;have dml:Dm (upd t2 ml (.L [.ref m0,.ref m1])) ml:=⟨_,ql⟩;generalize upd t2 ml (.L [.ref m0,.ref m1])=t3 at ql S nz3 dml ⊢;refine Req.mk (p.dd (by decide)) λd0 hd0 R hx0=>?_
 rw[lp0];refine zy p.N (nU (p.dd (by decide))) F n01 n08 nz3 hd0 hx0 λt4 f0=>⟨rfl,?_⟩
 refine f0 _ ?_;clear f0;intro pa0 ma0 ra0 pds0 mks0 rws0 A0 H nz4 v0;have ql:=H _ _ ql;have q3:=H _ _ (S _ _ q3);have q4:=H _ _ (S _ _ q4);k_extra"w";refine Req.mk (p.dd (by decide)) λd1 hd1 T hx1=>?_
 rw[lp1];refine zy p.N (nU (p.dd (by decide))) F n11 n18 nz4 hd1 hx1 λt5 f1=>⟨rfl,?_⟩
 refine f1 _ ?_;clear f1;intro pa1 ma1 ra1 pds1 mks1 rws1 A1 s45 nz5 v1;k_extra"w";rename_i I hfl E Z;have hf6:=g9 (o:=.L []) (d6 t5 I (.L [.ref R,.ref T])) Z;have hh7:=d6 (upd t5 I (.L [.ref R,.ref T])) E (.L []);have s56:Sub t5 (upd t5 I (.L [.ref R,.ref T])):=Sub.upd hfl;have s67:Sub (upd t5 I (.L [.ref R,.ref T])) (upd (upd t5 I (.L [.ref R,.ref T])) E (.L [])):=Sub.upd Z;have dfl:Dm (upd t5 I (.L [.ref R,.ref T])) I:=⟨_,d6 _ _ _⟩;have nz7:=(nz5.upd (a:=I) (o:=.L [.ref R,.ref T]) rfl).upd (a:=E) (o:=.L []) rfl;generalize upd (upd t5 I (.L [.ref R,.ref T])) E (.L [])=t7 at hf6 hh7 s67 nz7 ⊢;generalize upd t5 I (.L [.ref R,.ref T])=t6 at Z s56 s67 dfl;have s47:Sub t4 t7:=s45.trans (s56.trans s67);have A:Sub t2 t7:=S.trans (H.trans s47);have kt:KtAt o ⟨I,ml,E,pt,pl,tl,wl,rv,λb=>bif b then⟨T,d1,pa1,ma1,m1,P1,T1,pds1,mks1,ts1⟩ else⟨R,d0,pa0,ma0,m0,P0,T0,pds0,mks0,ts0⟩,ws,O⟩ t7:=⟨hf6,s47 _ _ ql,A _ _ (L _ a1.2 _ a1.1),A _ _ (L _ a2.2 _ a2.1),A _ _ (L _ a3.2 _ a3.1),A _ _ (L _ a4.2 _ a4.1),A _ _ (L _ q.2 _ q.1)⟩
 refine a7 Z1.hst λy1 ey1 _=>a7 Z2.hst λy2 ey2 _=>?_
 have tm:=aY4 (v:=λb=>bif b then⟨ra1,R1,rws1,rs1,ps1,bY n1 [],bY n1 [],bY n1 (bY o.C.toNat false)⟩ else⟨ra0,R0,rws0,rs0,ps0,bY n0 [],bY n0 [],bY n0 (bY o.C.toNat false)⟩) (K:=⟨I,ml,E,pt,pl,tl,wl,rv,λb=>bif b then⟨T,d1,pa1,ma1,m1,P1,T1,pds1,mks1,ts1⟩ else⟨R,d0,pa0,ma0,m0,P0,T0,pds0,mks0,ts0⟩,ws,O⟩)
  (λa=>G9 Z1.aB ey1) (λa=>G9 Z2.aB ey2) (λa=>j4 S) (λa=>j4 H) (λa=>j4 s45) (λa=>j4 s56) (λa ha=>by
   k_extra"e"
   ·rw[e];exact⟨_,a1.1⟩
   k_extra"e"
   ·rw[e];exact⟨_,a2.1⟩
   k_extra"e"
   ·rw[e];exact⟨_,a3.1⟩
   k_extra"e"
   ·rw[e];exact⟨_,a4.1⟩
   ·rw[bV.mp ha];exact⟨_,q.1⟩)
  (λa ha=>⟨w0 a ha,B0.dm a ha⟩) (λa ha=>⟨w1 a ha,U.dm a ha⟩) ⟨hml,dml⟩ (λa ha=>⟨v0 a ha,A0.dm a ha⟩) (λa ha=>⟨v1 a ha,A1.dm a ha⟩) ⟨hfl,dfl⟩ Z
 exact Stop.mk (Ss p hs hl ⟨F,tp,ol,w5,w8,ww,e4⟩ (XD tm kt (N3 (El F n01 n08 B0' A A0 s47) (El F n11 n18 U A A1 (s56.trans s67))) nz7 hh7 (N3 B0.mP U.mP) (N3 B0.m2 U.m2) (N3 B0.p2 U.p2) (N3 B0.nt U.nt) (N3 B0.out U.out)) h)
end
noncomputable def fnT(p:Program)(ks:List Nat):Tab:=ks.map λk=>((dAt p k).name,.fn k)
theorem TabOK.fns{g:G}{ks:List Nat}{T:Tab}(h:∀ k∈ks,S6 g (dAt g.prog k).name (.fn k))(r:TabOK g T):TabOK g (fnT g.prog ks++T):=by
 induction ks with
 | nil=>exact r
 | cons k ks ih=>exact .cons (h k (.head _)) (ih λj hj=>h j (.tail _ hj))
theorem TabOK.mts{g:G}{l:List α}{x:α->Str}{k:α->Nat}{T:Tab}(h:∀ p∈l,S6 g (x p) (.mth (k p)))(r:TabOK g T):TabOK g (l.map (λp=>(x p,.mth (k p)))++T):=by
 induction l with
 | nil=>exact r
 | cons k ks ih=>exact .cons (h k (.head _)) (ih λj hj=>h j (.tail _ hj))
noncomputable def itV:Item->Value
 | .bi id=>.builtin id
 | .ty id=>.type id
 | _=>.none
noncomputable def isB:Item->Bool
 | .bi _=>true
 | .ty _=>true
 | _=>false
theorem TabOK.bis{g:G}{T:Tab}(h:∀ p∈T,Bi g p.1 (itV p.2))(k:∀ p∈T,isB p.2=true):TabOK g T:=by
 induction T with
 | nil=>exact .nil
 | cons p T ih=>
  have r:=ih (λq hq=>h q (.tail _ hq)) λq hq=>k q (.tail _ hq)
  have h1:=h p (.head _);have k1:=k p (.head _);obtain⟨x,it⟩:=p;cases it with
  | bi id=>exact .cons h1 r
  | ty id=>exact .cons h1 r
  | _=>cases k1
open PySem.W
theorem Jp{g:G}{a:Addr}{vs:List Value}(hl:g.h₀.IsList a vs.toArray)(hi:PyProof.Rows.IntsAre vs ns):Scr g a ns:=by
 refine⟨vs.toArray,hl,λh=>?_⟩
 rw[nY];clear hl;induction hi with
 | nil=>exact .nil
 | cons n t r ih=>exact .cons (.int n t) ih
theorem fin(l:OpenLaw){w:World}{sx:Shared}(g:G)(hp:g.prog=l.prog)(hw:g.w=w)(hh:g.h₀=sw.heap)(hg:sw.gens=#[]){fa a:Addr}{d:Nat}(hd:d<=100){f:Str}(hf:g.mg f=some (.ref fa))
  (c:d8 g d true f [.ref a] (λN=>none) (λv N=>v=.bool true) noX) {args:List WData} :
  wpAny (model l.row.prog w) callerA (call (.ref fa) [.ref a]) (λv s'=>GoodWG l.row.claim (classAt sx.heap) (ExcName.means sx.heap) args sw (.ok (.ret v)) s') (λe s'=>GoodWG l.row.claim (classAt sx.heap) (ExcName.means sx.heap) args sw (.error e) s') sw:=by
 subst hw;have e:l.row.prog=g.prog:=hp.symm;rw[e];refine enter_call (oW (c callerA sw [.ref a] fa (G.bJ hf) ?_ ?_ (λN=>rfl) ⟨by rw[hh];exact λN N e=>e,λN N e=>by cases e⟩ (λN k_=>k_ [] rfl (λN h=>nomatch h)) (.cons (.ref a) .nil)) λr s' p=>?_)
 ·have:callerA.depth=301:=rfl
  have:recursionLimit=1000:=rfl
  omega
 ·have:callerA.units=4:=rfl
  have:cLine=9900:=rfl
  omega
 cases r with
 | error e=>refine p _ ?_;intro _ _ _ _ _ q;exact q.elim
 | ok f=>cases f with
  | ret v=>
   refine p _ ?_;intro V M' rv sm st hv;subst hv;obtain rfl:=rv.ofBool;refine GoodW.toG ⟨.inl ⟨_,.bool true,[],rfl,λN=>rfl,.bool true,?_,λN=>⟨.nil,λN h=>nomatch h⟩⟩,λb o hb=>sm.stays b o (by rw[hh];exact hb),st.same.2,st.same.1.trans hg⟩
   with_unfolding_all rfl
  | _=>exact p.elim
noncomputable def DR(e:DictEntry):Bool:=match e.key with
 | .str _ _=>true
 | _=>false
noncomputable def Bl:List Str:="__init__" :: x8
noncomputable def nsB(es:Array DictEntry):Bool:=es.all DR&&Bl.all λn=>(nsFind es n).isNone
def X6(h:Heap)(N:Addr):Prop:=
 ∀ P_:Prop,(∀ (m:Str->Option Value) (hn:h.Ns N m) (hi:m "__init__" = none) (hc:∀ n∈x8,m n=none),P_)->P_
set_option tactic.hygienic true in
theorem E4{h:Heap}{N:Addr}{o:Obj}{es:Array DictEntry}{ep:Nat}(ho:h.get? N=some o)(hd:o.data=.dict es ep)(hb:nsB es=true):X6 h N:=by
 refine d5 ((eV _ _).mp hb) λh1 h2=>?_
 have k:∀ n∈Bl,nsFind es n=none:=λn hn=>fM.mp (cX.mp h2 n hn)
 refine(λ_ k_=>k_ (nsFind es) ⟨o,es,ep,ho,hd,λe he=>?_,λ_=>rfl⟩ (k _ (.head _)) (λn hn=>k n (.tail _ hn)))
 obtain⟨i,hi,rfl⟩:=Array.mem_iff_getElem.mp he;have:=Array.all_eq_true.mp h1 i hi;unfold DR at this
 split at this
 ·rename_i n t e;exact⟨n,t,e⟩
 ·cases this
section
variable{g:G}{x nm q nm' q':Str}{C N C' N':Addr}{bs bs':List Value}{hdct hdct':Bool}{sn sn':List Str}{sub sub':List Value}{ab ab':Bool}{col col':Option Bool}{dd dd':Option Addr}{k0 k1 k2 k3 k5 k0' k1' k2' k3' k5':Option Value}{newId:String}
theorem Xr(hb:g.mg x=some (.ref C))(hC:g.h₀.get? C=some (excClassObj nm q C N bs vbm hdct sn sub ab col dd k0 k1 k2 k3 k5 "ValueError.__new__"))(hN:X6 g.h₀ N):XC g x C vbm:=by
 refine hN _ ?_;clear hN;rintro m hn hi hc;exact⟨hb,λz_ k_=>k_ N nm q bs hdct sn sub ab col dd k0 k1 k2 k3 k5 m hC hn hi hc .base .base⟩
theorem F8(hC':g.h₀.get? C'=some (excClassObj nm' q' C' N' bs' vbm hdct' sn' sub' ab' col' dd' k0' k1' k2' k3' k5' newId))(hN':X6 g.h₀ N')
  (hb:g.mg x=some (.ref C)) (hC:g.h₀.get? C=some (excClassObj nm q C N bs (.ref C'::vbm) hdct sn sub ab col dd k0 k1 k2 k3 k5 "ValueError.__new__")) (hN:X6 g.h₀ N):XC g x C (.ref C'::vbm):=by
 refine hN _ ?_;clear hN;rintro m hn hi hc;refine hN' _ ?_;clear hN';rintro m' hn' hi' hc';exact⟨hb,λz_ k_=>k_ N nm q bs hdct sn sub ab col dd k0 k1 k2 k3 k5 m hC hn hi hc (.own hC' hn' hi' .base) (.own hC' hn' hc' .base)⟩
end
set_option maxHeartbeats 8000000
open PySem PySem.W PyProof.Rows
noncomputable def mA(x:Str):Addr:=((mL.find? λm=>bM m.q==x).map (·.f)).getD 0
noncomputable def mtF(x:Str):Option Value:=some (.ref (mA x))
noncomputable def mNs:List (Str×Str):=mL.map λm=>(bM m.nm,bM m.q)
noncomputable def aNs:List Str:=["form","papers","marks","rows"]
noncomputable def Wu:List (Str×Nat×Int×Nat):=[("number",406,2,407),("paper",408,2,409),("line",410,2,411),("earlier",412,2,413),("add",414,3,415),("take",416,3,417),("least",418,3,419),("most",420,3,421),("part",422,3,423),("table",424,3,425),("where",426,4,427),("choose",428,4,429)]
section
variable{w:World}{mg mb:Str->Option Value}{h:Heap}(g1:h.Ns mainGlobals mg)(g2:h.Ns builtinsNs mb)(g3:h.NoLimit)(K:(myK w.params).In h)
variable(w) in
noncomputable abbrev gH:G:=⟨pB,w,h,mg,mb,g1,g2,g3,mtF⟩
include g1 K in
theorem n3{x:Str}{v:Option Value}(e:nsFind (uM w.params) x=v):mg x=v:=(tW g1 (K 3 (o3 w.params) rfl) rfl _).trans e
include K
theorem cf:X6 h 23:=E4 (K 23 _ rfl) rfl (by kernel_rfl)
theorem gd:Gd (gH w g1 g2 g3) (bM "SIZES") szs:=by
 refine⟨169,?_,?_⟩
 ·have h3:=K 3 (o3 w.params) rfl
  exact(tW g1 h3 rfl _).trans (by kernel_rfl)
 ·exact cu2 (n:=12) Wu (by k_extra"#") (by k_extra"#") (K 169 _ rfl)
theorem YH:XC (gH w g1 g2 g3) (bM "FormError") 24 vbm:=Xr (n3 g1 K (by kernel_rfl)) (K 24 _ rfl) (cf K)
theorem Vx:XC (gH w g1 g2 g3) (bM "NoTable") 37 (.ref 24::vbm):=F8 (K 24 _ rfl) (cf K) (n3 g1 K (by kernel_rfl)) (K 37 _ rfl) (E4 (K 36 _ rfl) rfl (by kernel_rfl))
theorem Nx:XC (gH w g1 g2 g3) (bM "NoForm") 49 (.ref 24::vbm):=F8 (K 24 _ rfl) (cf K) (n3 g1 K (by kernel_rfl)) (K 49 _ rfl) (E4 (K 48 _ rfl) rfl (by kernel_rfl))
theorem Uu:XC (gH w g1 g2 g3) (bM "NoRule") 61 (.ref 24::vbm):=F8 (K 24 _ rfl) (cf K) (n3 g1 K (by kernel_rfl)) (K 61 _ rfl) (E4 (K 60 _ rfl) rfl (by kernel_rfl))
theorem Wf:XC (gH w g1 g2 g3) (bM "Ring") 73 (.ref 24::vbm):=F8 (K 24 _ rfl) (cf K) (n3 g1 K (by kernel_rfl)) (K 73 _ rfl) (E4 (K 72 _ rfl) rfl (by kernel_rfl))
theorem br0:XC (gH w g1 g2 g3) (bM "NoPaper") 85 (.ref 24::vbm):=F8 (K 24 _ rfl) (cf K) (n3 g1 K (by kernel_rfl)) (K 85 _ rfl) (E4 (K 84 _ rfl) rfl (by kernel_rfl))
theorem QX:XC (gH w g1 g2 g3) (bM "NoYear") 97 (.ref 24::vbm):=F8 (K 24 _ rfl) (cf K) (n3 g1 K (by kernel_rfl)) (K 97 _ rfl) (E4 (K 96 _ rfl) rfl (by kernel_rfl))
theorem Uo:XC (gH w g1 g2 g3) (bM "NoLine") 109 (.ref 24::vbm):=F8 (K 24 _ rfl) (cf K) (n3 g1 K (by kernel_rfl)) (K 109 _ rfl) (E4 (K 108 _ rfl) rfl (by kernel_rfl))
theorem bp5:XC (gH w g1 g2 g3) (bM "NoChoice") 121 (.ref 24::vbm):=F8 (K 24 _ rfl) (cf K) (n3 g1 K (by kernel_rfl)) (K 121 _ rfl) (E4 (K 120 _ rfl) rfl (by kernel_rfl))
theorem Ue:XC (gH w g1 g2 g3) (bM "TooMany") 133 (.ref 24::vbm):=F8 (K 24 _ rfl) (cf K) (n3 g1 K (by kernel_rfl)) (K 133 _ rfl) (E4 (K 132 _ rfl) rfl (by kernel_rfl))
theorem yJ:∀ m∈mL,(gH w g1 g2 g3).fn (bM m.q)=some (.ref m.f):=λm hm=>by
 have e:mg (bM m.q)=none:=(tW g1 (K 3 (o3 w.params) rfl) rfl _).trans (gb.mp (show mL.map (λm=>nsFind (uM w.params) (bM m.q))=mL.map (λz_=>none) by kernel_rfl) m hm)
 unfold G.fn;dsimp only
 rw[e];exact congrArg (λa=>some (Value.ref a)) (gb.mp (show mL.map (λm=>mA (bM m.q))=mL.map (λm=>m.f) by kernel_rfl) m hm)
theorem Km:OCl (gH w g1 g2 g3) (bM "File") aNs mNs:=⟨λz_ k_=>k_ 362 (myK w.params) _ ⟨(n3 g1 K (by kernel_rfl)),K,(by kernel_rfl:clsIn (myK w.params) 362=some {name:=bM "File",bases:=[.type "object"],mro:=[.ref 362,.type "object"],ns:=361,qualname:=bM "File"}),rfl,by kernel_rfl,by kernel_rfl,by kernel_rfl⟩ (by kernel_rfl) (by kernel_rfl) (by kernel_rfl)
 (gb.mp (show aNs.map (λn=>findIn (myK w.params) (.ref 362) n)=aNs.map (λz_=>some none) by kernel_rfl)) λp hp=>by
  obtain⟨m,hm,rfl⟩:=cD.mp hp;exact⟨m.f,gb.mp (show mL.map (λm=>findIn (myK w.params) (.ref 362) (bM m.nm))=mL.map (λm=>some (some (.ref m.f))) by kernel_rfl) m hm,gb.mp (show mL.map (λm=>typeIn (myK w.params) (.ref m.f))=mL.map (λz_=>some (.type "function")) by kernel_rfl) m hm,yJ g1 g2 g3 K m hm⟩⟩
theorem cd2:∀ m∈mL,S6 (gH w g1 g2 g3) (bM m.q) (.mth m.k):=λm hm=>⟨λz_ k_=>k_ _ _ _ _ _ _ _ (yJ g1 g2 g3 K m hm)
 (K _ _ (gb.mp (show mL.map (λm=>(myK w.params).lookup m.f)=mL.map (λm=>some (fnM m)) by kernel_rfl) m hm)) rfl
 ⟨m.c,coM m,_,_,rfl,K _ _ (gb.mp (show mL.map (λm=>(myK w.params).lookup m.c)=mL.map (λm=>some (coM m)) by kernel_rfl) m hm),rfl,rfl⟩⟩
end
noncomputable def sH:List Nat:=[14,15,16,17,18,24,25,26,27,28,29,30,35,36,37,38,39,41,42,43,44,45,46,47]
noncomputable def su:List Nat:=[52,53,54,55,56,57,58,59,60,61,62,63,64,65,66,67,68,69,70,71,72,73,74,75,76,77,78,79,80,81]
noncomputable def bT:Tab:=[(bM "ValueError",.ty "ValueError"),(bM "all",.bi "all"),(bM "bool",.ty "bool"),(bM "dict",.ty "dict"),(bM "int",.ty "int"),(bM "isinstance",.bi "isinstance"),(bM "len",.bi "len"),(bM "list",.ty "list"),(bM "max",.bi "max"),(bM "min",.bi "min"),(bM "range",.ty "range"),(bM "set",.ty "set"),(bM "sorted",.bi "sorted"),(bM "str",.ty "str"),(bM "sum",.bi "sum"),(bM "tuple",.ty "tuple"),(bM "zip",.ty "zip")]
theorem bD0:recsOf viw=(sH++su).map (dAt pB):=by kernel_rfl
noncomputable def tR:Tab:=(bM "DEEPEST",.int 8)::(bM "File",.ob aNs mNs)::(bM "FormError",.cls 24 (vbm))::(bM "GREATEST",.int 1000000000)::(bM "LETTERS",.str "abcdefghijklmnopqrstuvwxyz")::(bM "LONGEST",.int 8)::(bM "MOST_CHOICES",.int 8)::(bM "MOST_LINES",.int 40)::(bM "MOST_ROWS",.int 20)::(bM "MOST_TABLES",.int 5)::(bM "MOST_YEARS",.int 8)::(bM "NoChoice",.cls 121 (.ref 24::vbm))::(bM "NoForm",.cls 49 (.ref 24::vbm))::(bM "NoLine",.cls 109 (.ref 24::vbm))::(bM "NoPaper",.cls 85 (.ref 24::vbm))::(bM "NoRule",.cls 61 (.ref 24::vbm))::(bM "NoTable",.cls 37 (.ref 24::vbm))::(bM "NoYear",.cls 97 (.ref 24::vbm))::(bM "Ring",.cls 73 (.ref 24::vbm))::(bM "SIZES",.dict szs)::(bM "TooMany",.cls 133 (.ref 24::vbm))::bT
noncomputable def mT:Tab:=mL.map λm=>(bM m.q,.mth m.k)
theorem UG:fnT pB sH++(mT++(fnT pB su++tR))=tab:=by kernel_rfl
theorem V3:∀ p∈bT,p.1∉startupNames/\p.1∉looseW viw [bM "SIZES"]/\p.1∉(recsOf viw).map (·.name)/\p.1∉(litsOf viw).map (·.1)/\p.1∉(clssOf viw (looseW viw [bM "SIZES"])).map (·.name):=by k_extra"#"
theorem Qp:∀ p∈bT,p.1≠"__name__":=by k_extra"#"
theorem cv9:∀ p∈bT,isB p.2=true:=by k_extra"#"
theorem Zr:∀ p∈bT,bootBuiltins p.1=some (itV p.2):=gb.mp (show bT.map (λp=>bootBuiltins p.1)=bT.map (λp=>some (itV p.2)) by kernel_rfl)
set_option tactic.hygienic true in
theorem hdw:PySem.Challenge.rw_uf010038_10.Holds:=by
 w_on
 refine holds_law wZ λwZ=>?_
 refine holds_open (q:=viw) (loose:=[bM "SIZES"]) (Xt:=vz) (XP:=XL viw []) (Yf:=Hook.obs F4) (Ya:=Hook.val F4) (YP:=Hook.says F4) (d:=dAt pB 81) (kwd:=[]) (N:=5000) left (Hook.of F4) (Hook.keeps F4) (λs e=>xl_of s (dw.mp e).1) XL.keeps (by kernel_rfl) (by kernel_rfl) (by kernel_rfl) (λs e=>recFacts_of (dw.mp e).2) (by kernel_rfl) wZ (by kernel_rfl) ⟨rfl,rfl,rfl,rfl,rfl,by k_extra"#"⟩ ?hw ?hc
 case hw=>w_witness2
 intro w sx sw mg mb G Y fa o pm cd doc dV kV ho hd hcd hD hmg hg args vals as hpre hlay hrd hwl hlo;have KX:=kIn_of Y;refine Ground.open G ?_;intro T B D TE TW;clear hd hcd hD ho B D TE TW G Y
 wrow_args hpre hlay hrd hwl hlo
 rename_i ns _ _ _ _ _ _ _ a vs _ hL _ _ _ hI _ hlen _;have gi:∀ x i,valOf viw x=some (.int i)->Gi (gH w T.g T.b T.nolimit) x i:=λx i hx=>by
  k_extra"bI"
 have gs:∀ x i,valOf viw x=some (.str i)->Gs (gH w T.g T.b T.nolimit) x i:=λx i hx=>by
  k_extra"bI"
 have N:TabOK (gH w T.g T.b T.nolimit) tR:=
  .cons (gi _ _ (by kernel_rfl)) <|
  .cons (Km T.g T.b T.nolimit KX) <|
  .cons (YH T.g T.b T.nolimit KX) <|
  .cons (gi _ _ (by kernel_rfl)) <|
  .cons (gs _ _ (by kernel_rfl)) <|
  .cons (gi _ _ (by kernel_rfl)) <|
  .cons (gi _ _ (by kernel_rfl)) <|
  .cons (gi _ _ (by kernel_rfl)) <|
  .cons (gi _ _ (by kernel_rfl)) <|
  .cons (gi _ _ (by kernel_rfl)) <|
  .cons (gi _ _ (by kernel_rfl)) <|
  .cons (bp5 T.g T.b T.nolimit KX) <|
  .cons (Nx T.g T.b T.nolimit KX) <|
  .cons (Uo T.g T.b T.nolimit KX) <|
  .cons (br0 T.g T.b T.nolimit KX) <|
  .cons (Uu T.g T.b T.nolimit KX) <|
  .cons (Vx T.g T.b T.nolimit KX) <|
  .cons (QX T.g T.b T.nolimit KX) <|
  .cons (Wf T.g T.b T.nolimit KX) <|
  .cons (gd T.g T.b T.nolimit KX) <|
  .cons (Ue T.g T.b T.nolimit KX) <|
  TabOK.bis (λp hp=>⟨T.free p.1 (V3 p hp).1 (V3 p hp).2.1 (V3 p hp).2.2.1 (V3 p hp).2.2.2.1 (V3 p hp).2.2.2.2,(T.builtins p.1 (Qp p hp)).trans (Zr p hp)⟩) cv9
 have fn:∀ k∈sH++su,S6 (gH w T.g T.b T.nolimit) (dAt pB k).name (.fn k):=λk hk=>by
  obtain⟨a,o,pm,code,doc,h1,h2,h3,h4⟩:=T.fn _ (show dAt pB k∈recsOf viw from bD0▸cD.mpr ⟨k,hk,rfl⟩)
  exact⟨⟨λ_ k_=>k_ a o _ _ pm code doc (G.bJ h1) h2 h3 h4⟩,_,h1⟩
 have N:=TabOK.fns (ks:=su) (λk hk=>fn k (cU _ hk)) N
 have N:=TabOK.mts (l:=mL) (x:=λm=>bM m.q) (k:=λm=>m.k) (cd2 T.g T.b T.nolimit KX) N
 have N:=TabOK.fns (ks:=sH) (λk hk=>fn k (cV _ hk)) N
 have N:Nm (gH w T.g T.b T.nolimit):=⟨rfl,UG▸N⟩;exact Internal.fin PySem.Challenge.rw_uf010038_10 (gH w T.g T.b T.nolimit) rfl rfl rfl hg (d:=22) (by decide) hmg (Internal.Oe N (cO _) (Internal.Jp hL hI) (by omega) λ_=>rfl)
end
end Internal
theorem PySem.Challenge.cw_uf010038_10_holds : PySem.Challenge.rw_uf010038_10.Holds :=
 Internal.hdw