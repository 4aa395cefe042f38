import PyProof.Rows.All
import Wide.All
import OpenK.AllK
import Wide.FinOn
import PySem.Challenge.RW_uf060002_08
set_option Elab.async false
set_option genSizeOf false
set_option genInjectivity false
set_option bootstrap.genMatcherCode false
set_option linter.all false
set_option maxRecDepth 100000
set_option maxHeartbeats 8000000
namespace Mine.Internal
open PySem renaming wpAny_bind -> G9, wpAny_pure -> Ha, wpAny_mono -> Hb, wpAny_holding -> Hc, sizeLine_eq -> Hd, wpAny_rule -> He, wpAny_forIn_list -> Hf, wpAny_call_entry -> Hg, wpAny_newList -> Hh, codeAny_mono -> Hi, wpAny_standAt -> Hj, Program -> Hk, codeAny -> Hl, Params -> Hm, mainGlobals -> Hn
open Array renaming length_toList→aN,toList_push→aV,getElem?_toList→bg,toList_append→bh,toList_extract→ca,toList_reverse→d5,getD_eq_getD_getElem?→eM,forIn_toList→fn,toArray_toList→gF,getElem?_eq_getElem→ir,eraseIdxIfInBounds→iJ,size_setIfInBounds→iN,toList_map→lq,replicate→lZ,size_map→mF,toList_modify→mS,ext'→ny,getD→nz,getElem_mem→nP,mk→pK,size_zip→re
open BEq renaming rfl→on
open Bool renaming true→ag,false→ai,false_eq_true→aT,and_eq_true→bx,false_ne_true→cT,toNat_le→dK,true_and→fb,not_eq_true'→fS,true→hV,not_true→iF,and_true→iG,or_eq_true→lX,or_true→o5,noConfusion→oE,eq_iff_iff→pq,false_and→pN,and_false→r8,not_not→rZ
open Classical renaming byContradiction→cj
open Eq renaming symm→d6
open ForIn renaming forIn→iA
open ForInStep renaming yield→ce,done→dQ
open Iff renaming rfl→mK,trans→rQ
open Inhabited renaming default→rT
open Int renaming fmod_nonneg_of_pos→bd,fmod_lt_of_pos→bu,le_trans→bW,toNat_of_nonneg→cN,natCast_nonneg→cR,eq_ofNat_of_zero_le→d7,toNat→du,ofNat→dD,toNat_natCast→dI,lt_of_le_of_lt→dV,min_eq_right→gj,mul_le_mul_of_nonneg_right→gx,mul_le_mul_of_nonneg_left→gH,min_eq_left→gI,le_add_of_nonneg_right→iq,add_lt_of_lt_sub_left→iw,le_add_of_sub_left_le→ix,lt_irrefl→iP,max_eq_right→iS,add_zero→lz,lt_trans→lQ,max_eq_left→lT,le_refl→mH,lt_of_lt_of_le→nG,le_of_eq→nH,emod_eq_of_lt→oi,le_of_lt→ou,mul_nonneg→pL,le_natAbs→rA,le_total→rU,toNat_lt→sj,zero_mul→sk
open Int.ofNat renaming inj→rH
open Lean renaming maxRecDepth→mf
open List renaming mem_cons_self→aj,mem_cons_of_mem→al,length_map→am,length_append→aq,length_cons→au,map_append→aB,getElem?_eq_getElem→aC,getD_eq_getElem?_getD→aF,length_singleton→aG,mem_append_right→aJ,size_toArray→aK,map_map→aL,append_assoc→aR,mem_append_left→aW,map_cons→aY,not_mem_nil→aZ,mem_map_of_mem→b8,length_range→be,pairwise_append→bw,append_nil→bz,getElem?_append_left→bE,lookup_cons→bF,length_nil→bG,range→bJ,mem_singleton→bK,length_filter_le→bL,mem_append→bM,getElem?_map→bQ,mem_cons→bR,foldl_cons→bV,mem_of_getElem?→bX,getElem?_append_right→bY,find?_cons→cg,drop_eq_getElem_cons→cn,extract_eq_take_drop→cq,map_congr_left→cw,eq_nil_of_length_eq_zero→cz,getElem?_eq_none→cA,getElem_mem→cH,flatMap_cons→cM,pairwise_singleton→d8,dropLast_concat_getLast→de,filterMap_cons→df,take_of_length_le→dj,length_take→dt,length_replicate→dA,getElem?_toArray→dB,length→dH,length_erase_of_mem→dJ,getElem?_cons_succ→dO,nil_append→dZ,perm_append_comm→eB,take_append_drop→eD,take_add_one→eG,mem_of_mem_take→eR,map_id→eV,length_drop→eX,append_ne_nil_of_right_ne_nil→fw,eraseIdx_append_of_length_le→fC,replicate→fH,mem_map→fM,nodup_append→fU,ext_getElem?→fV,pairwise_map→fW,length_pos_of_mem→fY,findIdx?_toArray→g9,filterMap_append→gf,eq_nil_or_concat→gg,concat_eq_append→gh,mem_of_mem_erase→gi,mem_flatMap→gw,mem_of_mem_drop→gE,mem_erase_of_ne→gG,of_mem_zip→gL,range_succ→gP,reverse_append→gQ,getElem_of_mem→gR,flatMap_append→gS,zip_cons_cons→i8,getElem?_drop→ik,nodup_iff_pairwise_ne→ip,mem_of_find?_eq_some→iv,exists_mem_of_ne_nil→iy,range'→iD,drop_length→iU,getElem?_replicate→iV,all_eq_not_any_not→l8,all_eq_true→lh,perm_middle→ln,filter_cons→ls,range_succ_eq_map→lK,drop_eq_nil_of_le→lM,find?_some→lY,singleton_append→ma,range_eq_range'→mI,filter_sublist→mW,getElem?_range→mX,findIdx?→nf,contains_cons→nu,getElem?_take→nv,map→nS,reverse_cons→o8,take_sublist→oh,tail_sublist→ow,filter_congr→oy,map_fst_zip→oH,take_length→oJ,cons_append→oQ,nodup_range→oS,take→oT,isEmpty_map→oV,range'_succ→oW,lookup→oX,forIn_cons→pn,length_set→pA,nodup_cons→pD,drop_drop→r9,nodup_nil→rh,take_nil→rn,drop_nil→rp,all_cons→rB
open List.Nodup renaming sublist→nF
open List.Perm renaming append_left→dC,trans→dE,refl→il,append_right→lN
open List.Sublist renaming refl→ov
open List.cons renaming injEq→po,inj→rq
open Max renaming max→fF
open Min renaming min→fk
open Nat renaming le_trans→ap,le_refl→ar,lt_trans→aw,zero_le→aE,lt_of_lt_of_le→aS,succ_le_succ→b6,le_of_ble_eq_true→ba,ne_of_lt→bl,le_of_eq→bp,lt_succ_of_le→bA,succ_lt_succ→bH,mul_le_mul_right→bI,le_add_right→bN,le_succ_of_le→bS,beq→ch,zero_add→ci,add_le_add_left→cu,add_le_add→cC,le_succ→cG,add_assoc→cJ,lt_of_le_of_lt→cU,lt_irrefl→cW,le_of_lt→cX,not_lt_zero→dF,succ_pos→dG,add_lt_add_left→dN,le_of_succ_le_succ→dU,add_zero→dW,lt_succ_of_lt→eH,add_le_add_right→eU,ne_of_gt→eW,lt_succ_self→eY,succ_mul→f0,le_antisymm→fh,min_le_left→fj,add_sub_cancel_left→fA,ble_eq_true_of_le→g7,sub_self→gX,lt_of_le_of_ne→im,blt→iB,le_of_lt_succ→iC,le_max_right→iX,lt_of_not_le→lk,ble→ly,le_total→lA,add_comm→lO,div_div_eq_div_mul→lP,le_max_left→lW,le_div_iff_mul_le→m9,succ_lt_succ_iff→mn,not_succ_le_zero→mo,mul_two→mB,add_lt_add_right→mD,pow_le_pow_right→mG,lt_or_ge→o7,min_self→og,lt_trichotomy→oo,pow_succ→oq,mul_comm→ot,max_eq_right→oB,not_lt_of_le→oU,pow_pos→pg,max_eq_left→pj,mul_assoc→rG,lt_asymm→sf,succ_add→si,rec→sr
open Nat.succ renaming inj→fN
open Ne renaming symm→bO
open Option renaming some→ae,none→af,some_ne_none→aA,some→bb,none→cP,or_none→pR
open Option.some renaming injEq→nJ
open Prod renaming ext→mh,fst→pO
open Prod.mk renaming inj→oZ,injEq→rj
open Pure renaming pure→b9
open PyProof.Rows renaming SortSt→aQ,SortKind→d4,failedOf→dY,callWith_type→eQ,mirror→f7,elem'→fe,wpS_modify→gu,setPending→gv,reverseSlice'→gz,wpS_get→gY,size_push'→ij,IsTup→iT,wpS_lift→lj,mirror_perm→mA,seqEpoch_at→mE,wpS→mJ,getElem?_mirror_all→mU,reads_tuple_items→nO,mergeAt'→o9,Call_→oY,getElem?_bubble→pB,entry_list_sort→pC,tuples'→pI,Subscript_→pX,tail_any→pY,oneType'→rc,countRun'→rP,minRun'→se
open PyProof.Rows.F renaming plain_set_update_loop→dg,entry_set_update_loop→f8
open PyProof.Rows.SortSt renaming mk'→lL
open PySem renaming Shared→ay,Value→aD,Addr→aH,wpAny→aI,Str→b7,Around→bn,model→bq,NameKind→bC,wpAny_truthy_bool→cx,codeAny_builtin→cD,Heap→cI,wpAny_of_eq→cQ,World→cV,compEnvC→cY,starEach→cZ,wpAny_ite_split→d9,compareOp→dq,Builtin→dM,sysModules→dS,bindArgs→dX,plainId_quiet→eu,PyData→eA,wpAny_newObj_type→eE,call→eP,cLine→f6,wpAny_comprehension_free→fc,eval→fm,backTo→fo,Env→fB,ReadsAll→fJ,sizeLine→fO,wpAny_pyIter_list→fQ,wpAny_dictEntries→fR,wpAny_notOrdered_dict→g8,swapsWith→gk,wpAny_isInstance→gm,cellsFrom→gq,checkBuiltinCall→gt,Comprehension→gA,richCompare→gB,codeAny_call_builtin→gC,FuncData→gD,wpAny_execs_nil→gJ,letOwnedTupleGo→gK,codeAny_of_tree→gM,call_isinstance→gN,wpAny_loadPart'→gO,hashStr→gT,valueAt→gU,wpAny_richCompare_same_room→gV,DictEntry→gZ,wpAny_setField_rec→hZ,call_meets→ic,assignEach→ie,wpAny_assign_Name→iz,attributeBase→iH,SumFits→iK,wpAny_attempt→iM,GenState→iQ,Stmt→iR,noFill_tuple_add→iW,markedBehindIn_of_false→kV,Sem→lu,builtinsNs→lB,wpAny_Name→lC,wpAny_call→lF,concat_meets→lG,typeLookup→lH,intKind→lR,importedModules→lS,wpAny_specialOf→lU,Reads→lV,builtinLookup_eq_fast→m7,weight_type_call_type→m8,stored→mj,wpAny_field→ml,callWith_function_kw→mm,getD_mem→mw,wpAny_loadPart→my,spliced→mL,isSubtype→mM,wpAny_dictSet_pairs→mO,wpAny_isSubtype_exc→mT,seq_tuple_add→mY,CmpOp→mZ,assignInOrder→n8,reduceHash→nh,getattributeRaised→ni,intKind_is→nE,wpAny_pyIter_enum→nL,numAt_eq→nQ,bootBuiltins→nR,wpAny_mkText→nV,Keyword→nY,slot_list_setitem→o0,wpAny_loadPart_at→o6,wpAny_storeSet_of→om,Obj→oz,pyNext→oF,wpAny_getItem_of→oG,entryFor_of_tree→oI,wpAny_askSetting→oN,wpAny_Dict_empty→oP,keywordEach→pe,unsupported→pf,typeLookup_type→pv,wpAny_dictEpoch→px,hashInt→pE,standAt→pF,setItem→pG,getItem→pH,Pos→pJ,Result→pM,entryOfKey→pP,strKind_is→pQ,Operator→pS,getAttr?→pT,evalEach→pV,clipAt→pW,typeOf→pZ,mem_getD→r4,Model→rI,treeTable→rJ,storeName→rK,noteFrame→rL,OsState→rR,assign→rW,pyIter→rX,rawInt→rY,rule→sq
open PySem.Around renaming under_plainId→bZ,in1_units→dR,under_plain→nq
open PySem.Builtin.Dict renaming dictSlotArgs→iu,updateFrom→iY,samePairs→lI
open PySem.Builtin.Int renaming intBits→mP
open PySem.Builtin.List renaming listFitsIndex→ig
open PySem.Builtin.Range renaming rangeFitsLong→gW,small→mQ
open PySem.Builtin.Tuple renaming tupleHashOf→bD,tupleItemsOf→eO
open PySem.Calls renaming spliced_cons→bt,spliced_nil→cy,evalArgs_plain→d0,callWith_builtin→dh,Name_function_global→i9
open PySem.Code renaming quiet_builtin→nj
open PySem.Const renaming casesOn→rF
open PySem.Data renaming casesOn→nT
open PySem.DictEntry renaming refKey→oM
open PySem.Env renaming kindOf→lE
open PySem.F renaming args_tuple_add_2→f9,entry_tuple_add→fx,slot_tuple_add→fP,slot_list_pop→gc,slot_list_append→iI,slot_list_remove→iL,entry_type_call→iZ,slot_list_clear→l9,entry_list_pop→lJ,plain_set_new→me,slot_dict_eq→mq,slot_dict_ne→mu,slot_tuple_hash→nM,slot_tuple_lt→pu
open PySem.Flow renaming casesOn→rV
open PySem.Heap renaming get?_push_of_some→az,get?_push_size→aM,lt_size→aO,size_update→eZ,SameBut→fG,get?_push_ne→fX,get?_update_self→ge,size_push→hY,size_after_update→lw,get?_update_ne→mV
open PySem.Heap.DictOf renaming new→pz
open PySem.Heap.SameBut renaming update→bB
open PySem.NameKind renaming free→cb,cell→iE
open PySem.Obj renaming mapSeq→aX,putNameByArray→fu,putName→fy,putName_eq→ii
open PySem.PyData renaming eqv→aU,depthAll→bf,eqvAll→bP,canLay0→bU,canLayAll0→cL,strOk→nI,tuple→nN
open PySem.SeqAt renaming eqAt_reads→lD,EqAt→rz
open PySem.SeqAt.Reads renaming unique→fg
open PySem.SetTable renaming below→bj,leap→bT,bits→cK,runEnd→dc,turns→dz,Probe→eT,insertAt→fZ,fill→iO,fits→n9,layClean→oj,advance→oR,laid→rD,has→sh
open PySem.SetTable.below renaming go→eI
open PySem.SetTable.layClean renaming free→dm
open PySem.SetTable.probe renaming go→eJ
open PySem.Shared renaming TypeIs→gy
open PySem.Stmt renaming casesOn→rS
open PySem.Str renaming ofString→nZ
open PySem.Value renaming ref→cO,type→fq,int→hU,isStrOf_shape→mR,bool→r5,casesOn→rE,str→rM
open PySem.W renaming boot_heap→ee,Frag→fE,findIn→fT,hasDictIn→li,boot_drawn→ng,plainGet→nU,looks_findIn→nX,boot_toks→oA,emptyDict→oO,plainGet_of→pd,lookIn→r7,nsIn→rC,plainOver→rN,mg_of→rO,isFn→s9
open PySem.Walks renaming list→pU
open PyProof.Rows renaming wpS_bind -> Ho, wpS_pure -> Hp, wpS_mono -> Hq, pendingOf -> Hr, wpS_forRange -> Hs, listUpdate_at -> Ht, listItems_at -> Hu, arrOf -> Hv, Keyed -> Hw, seqObj -> Hx, get?_update_seq -> Hy
def Hz:=@Option.some.inj
def H0:=@decide_eq_false
def H3:=@decide_eq_true
def H4:=@of_decide_eq_true
def H7:=@eq_of_beq
open PySem PyProof.Rows PySem.SeqAt PySem.W
theorem zc3(h:Runs M Γ p t fs s e s'):s.heap.objs.size<=s'.heap.objs.size:=by
 induction h with
 | update _ _ ih=>exact lw ..▸ih
 | alloc _ ih=>exact ap (hY ..▸cG _) ih
 | _=>first|exact ar _|assumption|exact ap (by assumption) (by assumption)
theorem zfL{M:rI}{Γ:Ctx}{p:pJ}{t:lu Fin}{fs:List Frame}{g:Nat}{st:iQ}{s s':ay}{P:End->Prop}{f:End->iQ}(h:∃e s₁,Runs M Γ p t fs (s.setGen g st) e s₁/\e.quiet=ag/\P e/\s'=s₁.setGen g (f e)):s.heap.objs.size<=s'.heap.objs.size:=by
 obtain⟨_,s₁,hr,_,_,rfl⟩:=h;exact(zc3 hr:(s.setGen g st).heap.objs.size<=s₁.heap.objs.size)
theorem zmx{r:Resume}{A B:Prop}{C:aD->Prop}{G:Prop}(h:match r with
  | .send .none=>A
  | .send _=>B
  | .throw x=>C x)(a:A->G)(b:B->G)(c:∀x,C x->G):G:=by
 cases r with
 | send v=>cases v<;>first|exact a h|exact b h
 | throw x=>exact c x h
theorem zj9{M:rI}{Γ:Ctx}{p:pJ}{g:Nat}{r:Resume}{s s':ay}{Ir:GenResult}(h:Wakes M Γ p g r s Ir s'):s.heap.objs.size<=s'.heap.objs.size:=by
 have el:∀{A:Prop} {z:ay},z.heap=s.heap->A/\s'=z->s.heap.objs.size<=s'.heap.objs.size:=λe h=>by rw[h.2,e];exact ar _
 unfold Wakes at h;generalize s.gens[g]? = o at h;cases o with
 | none=>exact h.elim
 | some st=>cases st with|fresh c=>exact zmx h (zfL (P:=λe=>Ir=e.result)) (el rfl) λx=>el (z:=s.setGen g .finished) rfl|suspended=>exact zfL (P:=λe=>Ir=e.result) h|_=>exact el rfl h
def Big(M:rI)(Γ:Ctx)(n:Nat){V:Type}(t:lu V):Prop:=∀(Q:V->pJ->ay->Prop) (E:aD->pJ->ay->Prop) (p:pJ) (s:ay),n<=s.heap.objs.size->Sem.wp M Γ t Q E p s->
  Sem.wp M Γ t (λa p' s'=>n<=s'.heap.objs.size/\Q a p' s') (λe p' s'=>n<=s'.heap.objs.size/\E e p' s') p s
theorem zrT{V:Type}(M:rI)(Γ:Ctx)(n:Nat)(t:lu V):Big M Γ n t:=by
 induction t with
 | update a _ f k ih=>exact λQ E p s hn h=>⟨h.1,ih () Q E p _ (ap hn (bp (lw ..).symm)) h.2⟩
 | alloc o k ih=>exact λQ E p s hn h=>ih _ Q E p _ (ap hn (hY ..▸cG _)) h
 | load a _ k ih=>exact λQ E p s hn h=>h.imp λo h=>⟨h.1,ih o Q E p s hn h.2⟩
 | choose src m k ih=>exact λQ E p s hn h=>⟨h.1,ih _ Q E p { s with drawn:=s.drawn.bump src } hn h.2⟩
 | call c hd _ _ k ih=>exact λQ E p s hn h=>h.imp λr h=>h.imp λs' h=>⟨h.1,ih r Q E p s' (ap hn (zc3 h.1)) h.2⟩
 | genState g k ih=>exact λQ E p s hn h=>h.imp λr h=>⟨h.1,ih _ Q E p s hn h.2⟩
 | resume g r _ k ih=>exact λQ E p s hn h=>h.imp λr h=>h.imp λs' h=>⟨h.1,ih r Q E p s' (ap hn (zj9 h.1)) h.2⟩
 | fresh k ih=>exact λQ E p s hn h=>ih _ Q E p { s with toks:=s.toks+1 } hn h
 | os q _ k ih=>exact λQ E p s hn h=>ih _ Q E p { s with os:=(Os.step s.os q).1 } hn h
 | newGen c k ih=>exact λQ E p s hn h=>ih _ Q E p { s with gens:=s.gens.push (.fresh c) } hn h
 | pure|raise=>exact λ_ _ _ _ hn h=>⟨hn,h⟩
 | _=>first|exact λ_ _ _ _ _ h=>h|(rename_i ih;exact λQ E p s hn h=>ih _ Q E _ s hn h)
theorem zO{V:Type}{M:rI}{A:bn}{s:ay}{t:lu V}{Q:V->ay->Prop}{E:aD->ay->Prop}
  (h:aI M A t (λa s'=>s.heap.objs.size<=s'.heap.objs.size->Q a s') (λe s'=>s.heap.objs.size<=s'.heap.objs.size->E e s') s):aI M A t Q E s:=
 λΓ p hΓ=>Sem.wp_mono M Γ t (λ_ _ _ x=>x.2 x.1) (λ_ _ _ x=>x.2 x.1) p s (zrT M Γ s.heap.objs.size t _ _ p s (ar _) (h Γ p hΓ))
theorem zlq(h:Hl M A c (λr s'=>s.heap.objs.size<=s'.heap.objs.size->R r s') s):Hl M A c R s:=
 λΓ p hc hΓ=>(h Γ p hc hΓ).imp λ_ h=>h.imp λ_ h=>⟨h.1,h.2 (zc3 h.1)⟩
section
set_option maxRecDepth 1000000
open PySem.Calls
noncomputable def zuI(P:Hm):BT:=((((((((((BT.nil.ins 0 (boot_o_0 P)).ins 1 (boot_o_1 P)).ins 2 (boot_o_2 P)).ins 3 (boot_o_3 P)).ins 4 (boot_o_4 P)).ins 5 (boot_o_5 P)).ins 6 (boot_o_6 P)).ins 7 (boot_o_7 P)).ins 8 (boot_o_8 P)).ins 9 (boot_o_9 P)).ins 10 (boot_o_10 P)
noncomputable def AH(w:cV)(os:rR):SharedT:=⟨zuI w.params,11,(ee w.params).life,pK [],ng,oA,os⟩
theorem znB(w)(os):(AH w os).abs=⟨ee w.params,pK [],ng,oA,os⟩:=by kernel_rfl
theorem zll(P):(ee P).isNs Hn=ag:=by kernel_rfl
theorem zlk(P):(ee P).objs.size=11:=by kernel_rfl
theorem znC(P):(ee P).nsMap Hn "__annotations__" = ae (.ref 6):=by kernel_rfl
theorem ziu(t):through t=(endAt 0 t).isSome:=by
 obtain⟨cur,code,pos,stack⟩:=t;cases stack with
 | nil=>
  cases cur with
  | pure x=>cases x<;>rfl
  | _=>rfl
 | cons a l=>rfl
theorem zpz:∀{n:Nat} {s s':ay} {t:Thread} {f:Flow} {c:Code} {q:pJ},segRun tb p w n₀ ann 0 n s t=ae (f,s',c,q)->topRun tb p w n₀ ann n s t=ae s':=by
 intro n
 induction n with
 | zero=>intro s s' t f c q h;cases h
 | succ n ih=>
  intro s s' t f c q h;unfold segRun at h;unfold topRun;rw[ziu];cases he:endAt 0 t with
  | some x=>rw[he] at h;cases h;rfl
  | none=>
   rw[he] at h;dsimp only[Option.isSome_none];cases hk:stepOk n₀ ann t with
   | false=>rw[hk] at h;cases h
   | true=>
    rw[hk] at h;cases hs:step (denote tb) p w s t with
    | halt o s₂=>rw[hs] at h;cases h
    | go s₂ t₂=>rw[hs] at h;exact ih h
noncomputable def AF{V:Type}(p q:Hk)(loose:List b7)(Xt:ay->Bool)(Yf:ay->V)(P:Hm)(s:ay):=
 (staticsOk (lS p.main.body) (ee P) s.heap&&namesBound p s.heap&&gensDone s&&laidKept (ee P) s.heap,openSeen q loose (lS p.main.body) Xt ag s,Yf s)
theorem zl1{p q:Hk}{loose:List b7}{Xt:ay->Bool}{V:Type}{Yf:ay->V}{Ya:cV->V}{N:Nat}
  (e:opening p=plainProg p.main.scope.names)(hN:ly 600 N=ag)(f:∀s,fenceModules? p s=ae s)
  (h:∀(w:cV) (os:rR),(segRunT rJ p w 11 (ae (.ref 6)) 0 N (AH w os) (topStub p)).map (λr=>AF p q loose Xt Yf w.params r.2.1.abs)=ae (ag,openGood q loose,Ya w)):LeftO p q loose Xt Yf Ya N ag:=by
 intro w;obtain⟨⟨hp,gs,d,k,os⟩,hs,hv⟩:=Option.map_eq_some_iff.mp (boot_open e hN f w);obtain⟨rfl,rfl,rfl,rfl⟩:hp=ee w.params/\gs=pK []/\d=ng/\k=oA:=by simpa using hv
 obtain⟨⟨fl,sT,c,q'⟩,hr,hl⟩:=Option.map_eq_some_iff.mp (h w os);obtain⟨l1,l2,l3⟩:_/\_/\_:=by simpa only[AF,rj] using hl
 have r:=zpz (segRun_of hr);rw[znB] at r;have t:topFrom rJ p w N ⟨ee w.params,pK [],ng,oA,os⟩=ae sT.abs:=by
  unfold topFrom;dsimp only;rw[zll,zlk,znC,r];show (match staticsOk (lS p.main.body) (ee w.params) sT.abs.heap&&namesBound p sT.abs.heap&&gensDone sT.abs&&laidKept (ee w.params) sT.abs.heap with|true=>ae sT.abs|false=>af)=_;rw[l1]
 unfold openEnds;rw[hs];show (topFrom rJ p w N _).map _=_;rw[t];exact congrArg ae (mh l2 l3)
noncomputable def yh{T:Type}(s:iR)(z:T)(f:b7->Arguments->List iR->Scope->T)(c:List iR->T):T:=@rS (λ_=>T) s (λn a b _ _ _ o _ _ _=>f n a b o) (λ_ _ _ _ _ _ _ _ _ _=>z) (λ_ _ _ b _ _ _ _ _ _ _=>c b) (λ_ _=>z) (λ_ _=>z) (λ_ _ _=>z) (λ_ _ _ _ _ _ _=>z) (λ_ _ _ _=>z) (λ_ _ _ _ _=>z) (λ_ _ _ _ _=>z) (λ_ _ _ _ _=>z) (λ_ _ _ _=>z) (λ_ _ _ _=>z) (λ_ _ _=>z) (λ_ _ _=>z) (λ_ _ _=>z) (λ_ _ _=>z) (λ_ _ _ _ _=>z) (λ_ _ _ _ _=>z) (λ_ _ _=>z) (λ_ _=>z) (λ_ _ _ _=>z) (λ_ _=>z) (λ_ _=>z) (λ_ _=>z) (λ_=>z) (λ_=>z) (λ_=>z)
noncomputable def BM(pm cd:aD)(q name:b7)(CA:Arguments)(body:List iR)(scope:Scope):oz:=⟨.type "function",af,.func { name:=name,qualname:=q,params:=CA,body:=.stmts body,scope:=scope,globals:=3,closure:=[],defaults:=.none,kwdefaults:=.none,pyModule:=pm,code:=cd },#[]⟩
noncomputable def vf(s:iR)(q:b7)(pm cd:aD):oz:=yh s rT (BM pm cd q) λ_=>rT
noncomputable def tt(s:iR)(pm cd:aD):oz:=yh s rT (λn=>BM pm cd n n) λ_=>rT
noncomputable def uX(s:iR)(j:Nat):iR:=yh s s (λ_ _ _ _=>s) λb=>b.getD j (.Pass ⟨0,0,0,0⟩)
noncomputable def en(P:Hm)(x:b7)(t:Tok)(v:aD):gZ:=⟨PyData.keyHash P x,.str x t,v⟩
end
section
variable{A1 A2 A3 A4 A5 A6 A7 A8 A9 Rp R0 Q0 QN QI Qy RP:Sort _}{G:Prop}{O1 O2 O3 O4 O5 O6 O7 O8 O9 Mv LZ ME Mx Ms:Prop}{P1 P2 P3 P4 P5 P6 P7 P8:A1->Prop}{Q1 Q2 Q3 Q4 Q5 Q6 Q7 Q8 Q9:A1->A2->Prop}{R1 R2 R3 R4 R5 R6 R7 R8 R9:A1->A2->A3->Prop}{S1 S2 S3 S4 S5 S6 S7 S8 S9:A1->A2->A3->A4->Prop}{T1 T2 T3 T4 T5 T6 T7:A1->A2->A3->A4->A5->Prop}{U1 U2 U3 U4 U5 U6 U7 U8 U9 Mg Me M3 Md LY:A1->A2->A3->A4->A5->A6->Prop}{V1 V2 V3 V4 V5 V6 V7 V8 V9 Pz PJ PK Pl PU:A1->A2->A3->A4->A5->A6->A7->Prop}{W1 W2 W3:A1->A2->A3->A4->A5->A6->A7->A8->Prop}{J1 J2 J3 J4:A1->A2->A3->A4->A5->A6->A7->A8->A9->Rp->R0->Q0->QN->QI->Qy->RP->Prop}
theorem nos{V:Type}{x:V}{P:Prop}(h:af=ae x):P:=nomatch h
theorem nso{V:Type}{x:V}{P:Prop}(h:ae x=af):P:=nomatch h
theorem nbo{P:Prop}(h:ag=ai):P:=nomatch h
theorem nob{P:Prop}(h:ai=ag):P:=nomatch h
theorem jC(h:O1/\O2)(k:O1->O2->G):G:=by obtain⟨p1,p2⟩:=h;exact k p1 p2
theorem zQ(h:∃a,P1 a)(k:∀a,P1 a->G):G:=by obtain⟨a,p1⟩:=h;exact k a p1
theorem jg(h:O1/\O2/\O3)(k:O1->O2->O3->G):G:=by obtain⟨p1,p2,p3⟩:=h;exact k p1 p2 p3
theorem z0(h:∃a b,Q1 a b)(k:∀a b,Q1 a b->G):G:=by obtain⟨a,b,p1⟩:=h;exact k a b p1
theorem zI(h:O1/\O2/\O3/\O4)(k:O1->O2->O3->O4->G):G:=by obtain⟨p1,p2,p3,p4⟩:=h;exact k p1 p2 p3 p4
theorem kB(h:∃a b c,R1 a b c)(k:∀a b c,R1 a b c->G):G:=by obtain⟨a,b,c,p1⟩:=h;exact k a b c p1
theorem qq(h:O1/\O2/\O3/\O4/\O5)(k:O1->O2->O3->O4->O5->G):G:=by obtain⟨p1,p2,p3,p4,p5⟩:=h;exact k p1 p2 p3 p4 p5
theorem zcb(h:∃a b c d,S1 a b c d)(k:∀a b c d,S1 a b c d->G):G:=by obtain⟨a,b,c,d,p1⟩:=h;exact k a b c d p1
theorem zb9(h:O1/\O2/\O3/\O4/\O5/\O6)(k:O1->O2->O3->O4->O5->O6->G):G:=by obtain⟨p1,p2,p3,p4,p5,p6⟩:=h;exact k p1 p2 p3 p4 p5 p6
theorem zd7(h:∃a b c d e,T1 a b c d e)(k:∀a b c d e,T1 a b c d e->G):G:=by obtain⟨a,b,c,d,e,p1⟩:=h;exact k a b c d e p1
theorem zcP(h:O1/\O2/\O3/\O4/\O5/\O6/\O7)(k:O1->O2->O3->O4->O5->O6->O7->G):G:=by obtain⟨p1,p2,p3,p4,p5,p6,p7⟩:=h;exact k p1 p2 p3 p4 p5 p6 p7
theorem zlu(h:∃a b c d e f,U1 a b c d e f)(k:∀a b c d e f,U1 a b c d e f->G):G:=by obtain⟨a,b,c,d,e,f,p1⟩:=h;exact k a b c d e f p1
theorem zd2(h:O1/\O2/\O3/\O4/\O5/\O6/\O7/\O8)(k:O1->O2->O3->O4->O5->O6->O7->O8->G):G:=by obtain⟨p1,p2,p3,p4,p5,p6,p7,p8⟩:=h;exact k p1 p2 p3 p4 p5 p6 p7 p8
theorem zc8(h:O1/\O2/\O3/\O4/\O5/\O6/\O7/\O8/\O9)(k:O1->O2->O3->O4->O5->O6->O7->O8->O9->G):G:=by obtain⟨p1,p2,p3,p4,p5,p6,p7,p8,p9⟩:=h;exact k p1 p2 p3 p4 p5 p6 p7 p8 p9
theorem zcQ(h:O1/\O2/\O3/\O4/\O5/\O6/\O7/\O8/\O9/\Mv/\LZ/\ME/\Mx/\Ms)(k:O1->O2->O3->O4->O5->O6->O7->O8->O9->Mv->LZ->ME->Mx->Ms->G):G:=by obtain⟨p1,p2,p3,p4,p5,p6,p7,p8,p9,Fp,GJ,GY,GS,GV⟩:=h;exact k p1 p2 p3 p4 p5 p6 p7 p8 p9 Fp GJ GY GS GV
theorem qY(h:∃a b c d e f g i j l m n o p q r,J1 a b c d e f g i j l m n o p q r)(k:∀a b c d e f g i j l m n o p q r,J1 a b c d e f g i j l m n o p q r->G):G:=by obtain⟨a,b,c,d,e,f,g,i,j,l,m,n,o,p,q,r,p1⟩:=h;exact k a b c d e f g i j l m n o p q r p1
theorem znV(h:O1/\∃a,P1 a)(k:O1->∀a,P1 a->G):G:=jC h λp1 h=>zQ h λa p2=>k p1 a p2
theorem za(h:∃a,P1 a/\P2 a)(k:∀a,P1 a->P2 a->G):G:=zQ h λa h=>jC h λp1 p2=>k a p1 p2
theorem kz(h:O1/\O2/\∃a,P1 a)(k:O1->O2->∀a,P1 a->G):G:=jg h λp1 p2 h=>zQ h λa p3=>k p1 p2 a p3
theorem qT(h:O1/\∃a,P1 a/\P2 a)(k:O1->∀a,P1 a->P2 a->G):G:=jC h λp1 h=>zQ h λa h=>jC h λp2 p3=>k p1 a p2 p3
theorem zl(h:∃a,P1 a/\P2 a/\P3 a)(k:∀a,P1 a->P2 a->P3 a->G):G:=zQ h λa h=>jg h λp1 p2 p3=>k a p1 p2 p3
theorem z9(h:∃a b,Q1 a b/\Q2 a b)(k:∀a b,Q1 a b->Q2 a b->G):G:=z0 h λa b h=>jC h λp1 p2=>k a b p1 p2
theorem zqn(h:O1/\∃a,P1 a/\P2 a/\P3 a)(k:O1->∀a,P1 a->P2 a->P3 a->G):G:=jC h λp1 h=>zQ h λa h=>jg h λp2 p3 p4=>k p1 a p2 p3 p4
theorem zqo(h:O1/\∃a b,Q1 a b/\Q2 a b)(k:O1->∀a b,Q1 a b->Q2 a b->G):G:=jC h λp1 h=>z0 h λa b h=>jC h λp2 p3=>k p1 a b p2 p3
theorem zM(h:∃a,P1 a/\P2 a/\P3 a/\P4 a)(k:∀a,P1 a->P2 a->P3 a->P4 a->G):G:=zQ h λa h=>zI h λp1 p2 p3 p4=>k a p1 p2 p3 p4
theorem jJ(h:∃a,P1 a/\P2 a/\∃b,Q1 a b)(k:∀a,P1 a->P2 a->∀b,Q1 a b->G):G:=zQ h λa h=>jg h λp1 p2 h=>zQ h λb p3=>k a p1 p2 b p3
theorem zm(h:∃a b,Q1 a b/\Q2 a b/\Q3 a b)(k:∀a b,Q1 a b->Q2 a b->Q3 a b->G):G:=z0 h λa b h=>jg h λp1 p2 p3=>k a b p1 p2 p3
theorem jK(h:∃a b c,R1 a b c/\R2 a b c)(k:∀a b c,R1 a b c->R2 a b c->G):G:=kB h λa b c h=>jC h λp1 p2=>k a b c p1 p2
theorem zca(h:O1/\O2/\∃a b,Q1 a b/\Q2 a b)(k:O1->O2->∀a b,Q1 a b->Q2 a b->G):G:=jg h λp1 p2 h=>z0 h λa b h=>jC h λp3 p4=>k p1 p2 a b p3 p4
theorem zd3(h:O1/\∃a b c,R1 a b c/\R2 a b c)(k:O1->∀a b c,R1 a b c->R2 a b c->G):G:=jC h λp1 h=>kB h λa b c h=>jC h λp2 p3=>k p1 a b c p2 p3
theorem zhc(h:∃a,P1 a/\P2 a/\P3 a/\P4 a/\P5 a)(k:∀a,P1 a->P2 a->P3 a->P4 a->P5 a->G):G:=zQ h λa h=>qq h λp1 p2 p3 p4 p5=>k a p1 p2 p3 p4 p5
theorem zap(h:∃a,P1 a/\∃b,Q1 a b/\Q2 a b/\Q3 a b)(k:∀a,P1 a->∀b,Q1 a b->Q2 a b->Q3 a b->G):G:=zQ h λa h=>jC h λp1 h=>zQ h λb h=>jg h λp2 p3 p4=>k a p1 b p2 p3 p4
theorem zj(h:∃a b,Q1 a b/\Q2 a b/\Q3 a b/\Q4 a b)(k:∀a b,Q1 a b->Q2 a b->Q3 a b->Q4 a b->G):G:=z0 h λa b h=>zI h λp1 p2 p3 p4=>k a b p1 p2 p3 p4
theorem jx(h:∃a b c,R1 a b c/\R2 a b c/\R3 a b c)(k:∀a b c,R1 a b c->R2 a b c->R3 a b c->G):G:=kB h λa b c h=>jg h λp1 p2 p3=>k a b c p1 p2 p3
theorem zlt(h:O1/\∃a b,Q1 a b/\Q2 a b/\Q3 a b/\Q4 a b)(k:O1->∀a b,Q1 a b->Q2 a b->Q3 a b->Q4 a b->G):G:=jC h λp1 h=>z0 h λa b h=>zI h λp2 p3 p4 p5=>k p1 a b p2 p3 p4 p5
theorem zv(h:∃a b,Q1 a b/\Q2 a b/\Q3 a b/\Q4 a b/\Q5 a b)(k:∀a b,Q1 a b->Q2 a b->Q3 a b->Q4 a b->Q5 a b->G):G:=z0 h λa b h=>qq h λp1 p2 p3 p4 p5=>k a b p1 p2 p3 p4 p5
theorem zcR(h:∃a b c,R1 a b c/\R2 a b c/\R3 a b c/\R4 a b c)(k:∀a b c,R1 a b c->R2 a b c->R3 a b c->R4 a b c->G):G:=kB h λa b c h=>zI h λp1 p2 p3 p4=>k a b c p1 p2 p3 p4
theorem kl(h:∃a b c d,S1 a b c d/\S2 a b c d/\S3 a b c d)(k:∀a b c d,S1 a b c d->S2 a b c d->S3 a b c d->G):G:=zcb h λa b c d h=>jg h λp1 p2 p3=>k a b c d p1 p2 p3
theorem qz(h:O1/\∃a b,Q1 a b/\Q2 a b/\Q3 a b/\Q4 a b/\Q5 a b)(k:O1->∀a b,Q1 a b->Q2 a b->Q3 a b->Q4 a b->Q5 a b->G):G:=jC h λp1 h=>z0 h λa b h=>qq h λp2 p3 p4 p5 p6=>k p1 a b p2 p3 p4 p5 p6
theorem zd4(h:∃a,P1 a/\P2 a/\P3 a/\P4 a/\P5 a/\P6 a/\P7 a)(k:∀a,P1 a->P2 a->P3 a->P4 a->P5 a->P6 a->P7 a->G):G:=zQ h λa h=>zcP h λp1 p2 p3 p4 p5 p6 p7=>k a p1 p2 p3 p4 p5 p6 p7
theorem zd5(h:∃a b,Q1 a b/\Q2 a b/\Q3 a b/\Q4 a b/\Q5 a b/\Q6 a b)(k:∀a b,Q1 a b->Q2 a b->Q3 a b->Q4 a b->Q5 a b->Q6 a b->G):G:=z0 h λa b h=>zb9 h λp1 p2 p3 p4 p5 p6=>k a b p1 p2 p3 p4 p5 p6
theorem ziN(h:∃a b,Q1 a b/\Q2 a b/\Q3 a b/\∃c,R1 a b c/\R2 a b c)(k:∀a b,Q1 a b->Q2 a b->Q3 a b->∀c,R1 a b c->R2 a b c->G):G:=z0 h λa b h=>zI h λp1 p2 p3 h=>zQ h λc h=>jC h λp4 p5=>k a b p1 p2 p3 c p4 p5
theorem jB(h:∃a b c,R1 a b c/\R2 a b c/\R3 a b c/\R4 a b c/\R5 a b c)(k:∀a b c,R1 a b c->R2 a b c->R3 a b c->R4 a b c->R5 a b c->G):G:=kB h λa b c h=>qq h λp1 p2 p3 p4 p5=>k a b c p1 p2 p3 p4 p5
theorem kY(h:O1/\∃a b,Q1 a b/\Q2 a b/\Q3 a b/\Q4 a b/\Q5 a b/\Q6 a b)(k:O1->∀a b,Q1 a b->Q2 a b->Q3 a b->Q4 a b->Q5 a b->Q6 a b->G):G:=jC h λp1 h=>z0 h λa b h=>zb9 h λp2 p3 p4 p5 p6 p7=>k p1 a b p2 p3 p4 p5 p6 p7
theorem zhd(h:∃a,P1 a/\P2 a/\P3 a/\P4 a/\P5 a/\P6 a/\P7 a/\P8 a)(k:∀a,P1 a->P2 a->P3 a->P4 a->P5 a->P6 a->P7 a->P8 a->G):G:=zQ h λa h=>zd2 h λp1 p2 p3 p4 p5 p6 p7 p8=>k a p1 p2 p3 p4 p5 p6 p7 p8
theorem ja(h:∃a b c,R1 a b c/\R2 a b c/\R3 a b c/\R4 a b c/\R5 a b c/\R6 a b c)(k:∀a b c,R1 a b c->R2 a b c->R3 a b c->R4 a b c->R5 a b c->R6 a b c->G):G:=kB h λa b c h=>zb9 h λp1 p2 p3 p4 p5 p6=>k a b c p1 p2 p3 p4 p5 p6
theorem zhe(h:∃a b c,R1 a b c/\∃d,S1 a b c d/\S2 a b c d/\∃e,T1 a b c d e)(k:∀a b c,R1 a b c->∀d,S1 a b c d->S2 a b c d->∀e,T1 a b c d e->G):G:=kB h λa b c h=>jC h λp1 h=>zQ h λd h=>jg h λp2 p3 h=>zQ h λe p4=>k a b c p1 d p2 p3 e p4
theorem jb(h:∃a b c d,S1 a b c d/\S2 a b c d/\S3 a b c d/\S4 a b c d/\S5 a b c d)(k:∀a b c d,S1 a b c d->S2 a b c d->S3 a b c d->S4 a b c d->S5 a b c d->G):G:=zcb h λa b c d h=>qq h λp1 p2 p3 p4 p5=>k a b c d p1 p2 p3 p4 p5
theorem jX(h:∃a b c d,S1 a b c d/\S2 a b c d/\S3 a b c d/\S4 a b c d/\S5 a b c d/\S6 a b c d)(k:∀a b c d,S1 a b c d->S2 a b c d->S3 a b c d->S4 a b c d->S5 a b c d->S6 a b c d->G):G:=zcb h λa b c d h=>zb9 h λp1 p2 p3 p4 p5 p6=>k a b c d p1 p2 p3 p4 p5 p6
theorem ze2(h:∃a b,Q1 a b/\Q2 a b/\Q3 a b/\Q4 a b/\Q5 a b/\Q6 a b/\Q7 a b/\Q8 a b/\Q9 a b)(k:∀a b,Q1 a b->Q2 a b->Q3 a b->Q4 a b->Q5 a b->Q6 a b->Q7 a b->Q8 a b->Q9 a b->G):G:=z0 h λa b h=>zc8 h λp1 p2 p3 p4 p5 p6 p7 p8 p9=>k a b p1 p2 p3 p4 p5 p6 p7 p8 p9
theorem ze3(h:∃a b c,R1 a b c/\R2 a b c/\R3 a b c/\R4 a b c/\R5 a b c/\R6 a b c/\R7 a b c/\R8 a b c)(k:∀a b c,R1 a b c->R2 a b c->R3 a b c->R4 a b c->R5 a b c->R6 a b c->R7 a b c->R8 a b c->G):G:=kB h λa b c h=>zd2 h λp1 p2 p3 p4 p5 p6 p7 p8=>k a b c p1 p2 p3 p4 p5 p6 p7 p8
theorem zd6(h:∃a b c,R1 a b c/\R2 a b c/\R3 a b c/\R4 a b c/\R5 a b c/\R6 a b c/\R7 a b c/\R8 a b c/\R9 a b c)(k:∀a b c,R1 a b c->R2 a b c->R3 a b c->R4 a b c->R5 a b c->R6 a b c->R7 a b c->R8 a b c->R9 a b c->G):G:=kB h λa b c h=>zc8 h λp1 p2 p3 p4 p5 p6 p7 p8 p9=>k a b c p1 p2 p3 p4 p5 p6 p7 p8 p9
theorem kC(h:∃a b c d e,T1 a b c d e/\T2 a b c d e/\T3 a b c d e/\T4 a b c d e/\T5 a b c d e/\T6 a b c d e/\T7 a b c d e)(k:∀a b c d e,T1 a b c d e->T2 a b c d e->T3 a b c d e->T4 a b c d e->T5 a b c d e->T6 a b c d e->T7 a b c d e->G):G:=zd7 h λa b c d e h=>zcP h λp1 p2 p3 p4 p5 p6 p7=>k a b c d e p1 p2 p3 p4 p5 p6 p7
theorem jO(h:∃a b c d e f g i j l m n o p q r,J1 a b c d e f g i j l m n o p q r/\J2 a b c d e f g i j l m n o p q r)(k:∀a b c d e f g i j l m n o p q r,J1 a b c d e f g i j l m n o p q r->J2 a b c d e f g i j l m n o p q r->G):G:=qY h λa b c d e f g i j l m n o p q r h=>jC h λp1 p2=>k a b c d e f g i j l m n o p q r p1 p2
theorem zaz(h:∃a b c d e f,U1 a b c d e f/\U2 a b c d e f/\U3 a b c d e f/\U4 a b c d e f/\U5 a b c d e f/\U6 a b c d e f/\U7 a b c d e f/\U8 a b c d e f/\U9 a b c d e f/\Mg a b c d e f/\Me a b c d e f/\M3 a b c d e f/\Md a b c d e f/\LY a b c d e f)(k:∀a b c d e f,U1 a b c d e f->U2 a b c d e f->U3 a b c d e f->U4 a b c d e f->U5 a b c d e f->U6 a b c d e f->U7 a b c d e f->U8 a b c d e f->U9 a b c d e f->Mg a b c d e f->Me a b c d e f->M3 a b c d e f->Md a b c d e f->LY a b c d e f->G):G:=zlu h λa b c d e f h=>zcQ h λp1 p2 p3 p4 p5 p6 p7 p8 p9 Fp GJ GY GS GV=>k a b c d e f p1 p2 p3 p4 p5 p6 p7 p8 p9 Fp GJ GY GS GV
theorem qs(h:∃a b c d e f g i j l m n o p q r,J1 a b c d e f g i j l m n o p q r/\J2 a b c d e f g i j l m n o p q r/\J3 a b c d e f g i j l m n o p q r/\J4 a b c d e f g i j l m n o p q r)(k:∀a b c d e f g i j l m n o p q r,J1 a b c d e f g i j l m n o p q r->J2 a b c d e f g i j l m n o p q r->J3 a b c d e f g i j l m n o p q r->J4 a b c d e f g i j l m n o p q r->G):G:=qY h λa b c d e f g i j l m n o p q r h=>zI h λp1 p2 p3 p4=>k a b c d e f g i j l m n o p q r p1 p2 p3 p4
theorem q8(p1:O1)(p2:O2):O1/\O2:=⟨p1,p2⟩
theorem zaC(a)(p1:P1 a):∃a,P1 a:=⟨a,p1⟩
theorem zu(p1:O1)(p2:O2)(p3:O3):O1/\O2/\O3:=⟨p1,p2,p3⟩
theorem j3(a)(b)(p1:Q1 a b):∃a b,Q1 a b:=⟨a,b,p1⟩
theorem zA(p1:O1)(p2:O2)(p3:O3)(p4:O4):O1/\O2/\O3/\O4:=⟨p1,p2,p3,p4⟩
theorem qV(a)(b)(c)(p1:R1 a b c):∃a b c,R1 a b c:=⟨a,b,c,p1⟩
theorem ju(p1:O1)(p2:O2)(p3:O3)(p4:O4)(p5:O5):O1/\O2/\O3/\O4/\O5:=⟨p1,p2,p3,p4,p5⟩
theorem zgd(a)(b)(c)(d)(p1:S1 a b c d):∃a b c d,S1 a b c d:=⟨a,b,c,d,p1⟩
theorem jP(p1:O1)(p2:O2)(p3:O3)(p4:O4)(p5:O5)(p6:O6):O1/\O2/\O3/\O4/\O5/\O6:=⟨p1,p2,p3,p4,p5,p6⟩
theorem zon(a)(b)(c)(d)(e)(p1:T1 a b c d e):∃a b c d e,T1 a b c d e:=⟨a,b,c,d,e,p1⟩
theorem zfn(p1:O1)(p2:O2)(p3:O3)(p4:O4)(p5:O5)(p6:O6)(p7:O7):O1/\O2/\O3/\O4/\O5/\O6/\O7:=⟨p1,p2,p3,p4,p5,p6,p7⟩
theorem zfo(a)(b)(c)(d)(e)(f)(p1:U1 a b c d e f):∃a b c d e f,U1 a b c d e f:=⟨a,b,c,d,e,f,p1⟩
theorem zeb(p1:O1)(p2:O2)(p3:O3)(p4:O4)(p5:O5)(p6:O6)(p7:O7)(p8:O8):O1/\O2/\O3/\O4/\O5/\O6/\O7/\O8:=⟨p1,p2,p3,p4,p5,p6,p7,p8⟩
theorem ziW(a)(b)(c)(d)(e)(f)(g)(p1:V1 a b c d e f g):∃a b c d e f g,V1 a b c d e f g:=⟨a,b,c,d,e,f,g,p1⟩
theorem zdd(p1:O1)(p2:O2)(p3:O3)(p4:O4)(p5:O5)(p6:O6)(p7:O7)(p8:O8)(p9:O9):O1/\O2/\O3/\O4/\O5/\O6/\O7/\O8/\O9:=⟨p1,p2,p3,p4,p5,p6,p7,p8,p9⟩
theorem zar(p1:O1)(p2:O2)(p3:O3)(p4:O4)(p5:O5)(p6:O6)(p7:O7)(p8:O8)(p9:O9)(Fp:Mv)(GJ:LZ)(GY:ME)(GS:Mx)(GV:Ms):O1/\O2/\O3/\O4/\O5/\O6/\O7/\O8/\O9/\Mv/\LZ/\ME/\Mx/\Ms:=⟨p1,p2,p3,p4,p5,p6,p7,p8,p9,Fp,GJ,GY,GS,GV⟩
theorem zsk(p1:O1)(a)(p2:P1 a):O1/\∃a,P1 a:=q8 p1 (zaC a p2)
theorem zf(a)(p1:P1 a)(p2:P2 a):∃a,P1 a/\P2 a:=zaC a (q8 p1 p2)
theorem zag(p1:O1)(p2:O2)(a)(p3:P1 a):O1/\O2/\∃a,P1 a:=zu p1 p2 (zaC a p3)
theorem zah(p1:O1)(a)(p2:P1 a)(p3:P2 a):O1/\∃a,P1 a/\P2 a:=q8 p1 (zaC a (q8 p2 p3))
theorem zs9(p1:O1)(a)(b)(p2:Q1 a b):O1/\∃a b,Q1 a b:=q8 p1 (j3 a b p2)
theorem zz(a)(p1:P1 a)(p2:P2 a)(p3:P3 a):∃a,P1 a/\P2 a/\P3 a:=zaC a (zu p1 p2 p3)
theorem zaE(a)(b)(p1:Q1 a b)(p2:Q2 a b):∃a b,Q1 a b/\Q2 a b:=j3 a b (q8 p1 p2)
theorem zqI(p1:O1)(p2:O2)(a)(p3:P1 a)(p4:P2 a):O1/\O2/\∃a,P1 a/\P2 a:=zu p1 p2 (zaC a (q8 p3 p4))
theorem zga(p1:O1)(a)(p2:P1 a)(p3:P2 a)(p4:P3 a):O1/\∃a,P1 a/\P2 a/\P3 a:=q8 p1 (zaC a (zu p2 p3 p4))
theorem zgb(p1:O1)(a)(b)(p2:Q1 a b)(p3:Q2 a b):O1/\∃a b,Q1 a b/\Q2 a b:=q8 p1 (j3 a b (q8 p2 p3))
theorem qJ(a)(p1:P1 a)(p2:P2 a)(p3:P3 a)(p4:P4 a):∃a,P1 a/\P2 a/\P3 a/\P4 a:=zaC a (zA p1 p2 p3 p4)
theorem qa(a)(p1:P1 a)(p2:P2 a)(b)(p3:Q1 a b):∃a,P1 a/\P2 a/\∃b,Q1 a b:=zaC a (zu p1 p2 (zaC b p3))
theorem zP(a)(b)(p1:Q1 a b)(p2:Q2 a b)(p3:Q3 a b):∃a b,Q1 a b/\Q2 a b/\Q3 a b:=j3 a b (zu p1 p2 p3)
theorem zaF(a)(b)(c)(p1:R1 a b c)(p2:R2 a b c):∃a b c,R1 a b c/\R2 a b c:=qV a b c (q8 p1 p2)
theorem zom(p1:O1)(a)(b)(c)(p2:R1 a b c)(p3:R2 a b c):O1/\∃a b c,R1 a b c/\R2 a b c:=q8 p1 (qV a b c (q8 p2 p3))
theorem zec(a)(p1:P1 a)(p2:P2 a)(p3:P3 a)(p4:P4 a)(p5:P5 a):∃a,P1 a/\P2 a/\P3 a/\P4 a/\P5 a:=zaC a (ju p1 p2 p3 p4 p5)
theorem zho(a)(p1:P1 a)(b)(p2:Q1 a b)(p3:Q2 a b)(p4:Q3 a b):∃a,P1 a/\∃b,Q1 a b/\Q2 a b/\Q3 a b:=zaC a (q8 p1 (zaC b (zu p2 p3 p4)))
theorem zq(a)(b)(p1:Q1 a b)(p2:Q2 a b)(p3:Q3 a b)(p4:Q4 a b):∃a b,Q1 a b/\Q2 a b/\Q3 a b/\Q4 a b:=j3 a b (zA p1 p2 p3 p4)
theorem kH(a)(b)(c)(p1:R1 a b c)(p2:R2 a b c)(p3:R3 a b c):∃a b c,R1 a b c/\R2 a b c/\R3 a b c:=qV a b c (zu p1 p2 p3)
theorem zcS(p1:O1)(a)(b)(p2:Q1 a b)(p3:Q2 a b)(p4:Q3 a b)(p5:Q4 a b):O1/\∃a b,Q1 a b/\Q2 a b/\Q3 a b/\Q4 a b:=q8 p1 (j3 a b (zA p2 p3 p4 p5))
theorem jh(a)(b)(p1:Q1 a b)(p2:Q2 a b)(p3:Q3 a b)(p4:Q4 a b)(p5:Q5 a b):∃a b,Q1 a b/\Q2 a b/\Q3 a b/\Q4 a b/\Q5 a b:=j3 a b (ju p1 p2 p3 p4 p5)
theorem jY(a)(b)(c)(p1:R1 a b c)(p2:R2 a b c)(p3:R3 a b c)(p4:R4 a b c):∃a b c,R1 a b c/\R2 a b c/\R3 a b c/\R4 a b c:=qV a b c (zA p1 p2 p3 p4)
theorem ji(p1:O1)(a)(b)(p2:Q1 a b)(p3:Q2 a b)(p4:Q3 a b)(p5:Q4 a b)(p6:Q5 a b):O1/\∃a b,Q1 a b/\Q2 a b/\Q3 a b/\Q4 a b/\Q5 a b:=q8 p1 (j3 a b (ju p2 p3 p4 p5 p6))
theorem zaD(a)(p1:P1 a)(p2:P2 a)(p3:P3 a)(p4:P4 a)(p5:P5 a)(p6:P6 a)(p7:P7 a):∃a,P1 a/\P2 a/\P3 a/\P4 a/\P5 a/\P6 a/\P7 a:=zaC a (zfn p1 p2 p3 p4 p5 p6 p7)
theorem ziV(a)(p1:P1 a)(b)(c)(p2:R1 a b c)(p3:R2 a b c)(p4:R3 a b c)(p5:R4 a b c):∃a,P1 a/\∃b c,R1 a b c/\R2 a b c/\R3 a b c/\R4 a b c:=zaC a (q8 p1 (j3 b c (zA p2 p3 p4 p5)))
theorem zK(a)(b)(c)(p1:R1 a b c)(p2:R2 a b c)(p3:R3 a b c)(p4:R4 a b c)(p5:R5 a b c):∃a b c,R1 a b c/\R2 a b c/\R3 a b c/\R4 a b c/\R5 a b c:=qV a b c (ju p1 p2 p3 p4 p5)
theorem qi(p1:O1)(a)(b)(p2:Q1 a b)(p3:Q2 a b)(p4:Q3 a b)(p5:Q4 a b)(p6:Q5 a b)(p7:Q6 a b):O1/\∃a b,Q1 a b/\Q2 a b/\Q3 a b/\Q4 a b/\Q5 a b/\Q6 a b:=q8 p1 (j3 a b (jP p2 p3 p4 p5 p6 p7))
theorem k8(a)(b)(c)(p1:R1 a b c)(p2:R2 a b c)(p3:R3 a b c)(p4:R4 a b c)(p5:R5 a b c)(p6:R6 a b c):∃a b c,R1 a b c/\R2 a b c/\R3 a b c/\R4 a b c/\R5 a b c/\R6 a b c:=qV a b c (jP p1 p2 p3 p4 p5 p6)
theorem qj(a)(b)(c)(d)(p1:S1 a b c d)(p2:S2 a b c d)(p3:S3 a b c d)(p4:S4 a b c d)(p5:S5 a b c d):∃a b c d,S1 a b c d/\S2 a b c d/\S3 a b c d/\S4 a b c d/\S5 a b c d:=zgd a b c d (ju p1 p2 p3 p4 p5)
theorem zgc(p1:O1)(a)(b)(c)(p2:R1 a b c)(p3:R2 a b c)(p4:R3 a b c)(p5:R4 a b c)(p6:R5 a b c)(p7:R6 a b c):O1/\∃a b c,R1 a b c/\R2 a b c/\R3 a b c/\R4 a b c/\R5 a b c/\R6 a b c:=q8 p1 (qV a b c (jP p2 p3 p4 p5 p6 p7))
theorem qt(a)(b)(c)(d)(p1:S1 a b c d)(p2:S2 a b c d)(p3:S3 a b c d)(p4:S4 a b c d)(p5:S5 a b c d)(p6:S6 a b c d):∃a b c d,S1 a b c d/\S2 a b c d/\S3 a b c d/\S4 a b c d/\S5 a b c d/\S6 a b c d:=zgd a b c d (jP p1 p2 p3 p4 p5 p6)
theorem ze6(a)(b)(c)(p1:R1 a b c)(p2:R2 a b c)(p3:R3 a b c)(p4:R4 a b c)(p5:R5 a b c)(p6:R6 a b c)(p7:R7 a b c)(p8:R8 a b c):∃a b c,R1 a b c/\R2 a b c/\R3 a b c/\R4 a b c/\R5 a b c/\R6 a b c/\R7 a b c/\R8 a b c:=qV a b c (zeb p1 p2 p3 p4 p5 p6 p7 p8)
theorem zed(a)(p1:P1 a)(b)(c)(d)(e)(p2:T1 a b c d e)(p3:T2 a b c d e)(p4:T3 a b c d e)(p5:T4 a b c d e)(p6:T5 a b c d e)(p7:T6 a b c d e):∃a,P1 a/\∃b c d e,T1 a b c d e/\T2 a b c d e/\T3 a b c d e/\T4 a b c d e/\T5 a b c d e/\T6 a b c d e:=zaC a (q8 p1 (zgd b c d e (jP p2 p3 p4 p5 p6 p7)))
theorem za7(a)(b)(p1:Q1 a b)(c)(d)(e)(p2:T1 a b c d e)(p3:T2 a b c d e)(p4:T3 a b c d e)(p5:T4 a b c d e)(p6:T5 a b c d e)(p7:T6 a b c d e):∃a b,Q1 a b/\∃c d e,T1 a b c d e/\T2 a b c d e/\T3 a b c d e/\T4 a b c d e/\T5 a b c d e/\T6 a b c d e:=j3 a b (q8 p1 (qV c d e (jP p2 p3 p4 p5 p6 p7)))
theorem zee(a)(b)(c)(p1:R1 a b c)(p2:R2 a b c)(p3:R3 a b c)(p4:R4 a b c)(p5:R5 a b c)(p6:R6 a b c)(p7:R7 a b c)(p8:R8 a b c)(p9:R9 a b c):∃a b c,R1 a b c/\R2 a b c/\R3 a b c/\R4 a b c/\R5 a b c/\R6 a b c/\R7 a b c/\R8 a b c/\R9 a b c:=qV a b c (zdd p1 p2 p3 p4 p5 p6 p7 p8 p9)
theorem qu(a)(b)(c)(d)(e)(p1:T1 a b c d e)(p2:T2 a b c d e)(p3:T3 a b c d e)(p4:T4 a b c d e)(p5:T5 a b c d e)(p6:T6 a b c d e)(p7:T7 a b c d e):∃a b c d e,T1 a b c d e/\T2 a b c d e/\T3 a b c d e/\T4 a b c d e/\T5 a b c d e/\T6 a b c d e/\T7 a b c d e:=zon a b c d e (zfn p1 p2 p3 p4 p5 p6 p7)
theorem zef(a)(b)(c)(d)(e)(f)(g)(p1:V1 a b c d e f g)(p2:V2 a b c d e f g)(p3:V3 a b c d e f g)(p4:V4 a b c d e f g)(p5:V5 a b c d e f g):∃a b c d e f g,V1 a b c d e f g/\V2 a b c d e f g/\V3 a b c d e f g/\V4 a b c d e f g/\V5 a b c d e f g:=ziW a b c d e f g (ju p1 p2 p3 p4 p5)
theorem zaV(a)(p1:P1 a)(b)(c)(d)(p2:S1 a b c d)(p3:S2 a b c d)(p4:S3 a b c d)(p5:S4 a b c d)(p6:S5 a b c d)(p7:S6 a b c d)(p8:S7 a b c d)(p9:S8 a b c d):∃a,P1 a/\∃b c d,S1 a b c d/\S2 a b c d/\S3 a b c d/\S4 a b c d/\S5 a b c d/\S6 a b c d/\S7 a b c d/\S8 a b c d:=zaC a (q8 p1 (qV b c d (zeb p2 p3 p4 p5 p6 p7 p8 p9)))
theorem zcT(a)(p1:P1 a)(b)(c)(d)(p2:S1 a b c d)(p3:S2 a b c d)(p4:S3 a b c d)(p5:S4 a b c d)(p6:S5 a b c d)(p7:S6 a b c d)(p8:S7 a b c d)(p9:S8 a b c d)(Fp:S9 a b c d):∃a,P1 a/\∃b c d,S1 a b c d/\S2 a b c d/\S3 a b c d/\S4 a b c d/\S5 a b c d/\S6 a b c d/\S7 a b c d/\S8 a b c d/\S9 a b c d:=zaC a (q8 p1 (qV b c d (zdd p2 p3 p4 p5 p6 p7 p8 p9 Fp)))
theorem zaG(a)(b)(c)(d)(e)(f)(p1:U1 a b c d e f)(p2:U2 a b c d e f)(p3:U3 a b c d e f)(p4:U4 a b c d e f)(p5:U5 a b c d e f)(p6:U6 a b c d e f)(p7:U7 a b c d e f)(p8:U8 a b c d e f)(p9:U9 a b c d e f)(Fp:Mg a b c d e f)(GJ:Me a b c d e f)(GY:M3 a b c d e f)(GS:Md a b c d e f)(GV:LY a b c d e f):∃a b c d e f,U1 a b c d e f/\U2 a b c d e f/\U3 a b c d e f/\U4 a b c d e f/\U5 a b c d e f/\U6 a b c d e f/\U7 a b c d e f/\U8 a b c d e f/\U9 a b c d e f/\Mg a b c d e f/\Me a b c d e f/\M3 a b c d e f/\Md a b c d e f/\LY a b c d e f:=zfo a b c d e f (zar p1 p2 p3 p4 p5 p6 p7 p8 p9 Fp GJ GY GS GV)
theorem j7(a)(p1:P1 a)(b)(c)(d)(e)(f)(g)(p2:V1 a b c d e f g)(p3:V2 a b c d e f g)(p4:V3 a b c d e f g)(p5:V4 a b c d e f g)(p6:V5 a b c d e f g)(p7:V6 a b c d e f g)(p8:V7 a b c d e f g)(p9:V8 a b c d e f g)(Fp:V9 a b c d e f g)(GJ:Pz a b c d e f g)(GY:PJ a b c d e f g)(GS:PK a b c d e f g)(GV:Pl a b c d e f g)(Rv:PU a b c d e f g):∃a,P1 a/\∃b c d e f g,V1 a b c d e f g/\V2 a b c d e f g/\V3 a b c d e f g/\V4 a b c d e f g/\V5 a b c d e f g/\V6 a b c d e f g/\V7 a b c d e f g/\V8 a b c d e f g/\V9 a b c d e f g/\Pz a b c d e f g/\PJ a b c d e f g/\PK a b c d e f g/\Pl a b c d e f g/\PU a b c d e f g:=zaC a (q8 p1 (zfo b c d e f g (zar p2 p3 p4 p5 p6 p7 p8 p9 Fp GJ GY GS GV Rv)))
end
section
set_option genSizeOf false
set_option genInjectivity false
namespace La
open Lean.Omega
inductive T where
 | v (i:Nat)|n (k:Nat)|a (s t:T)|s (s t:T)|m (k:Nat) (t:T)|x (s t:T)|y (s t:T)|c (t:T)|g (t:T)|o (t:T)
inductive P where
 | l (b:Bool) (s t:T)|e (b:Bool) (s t:T)|a (p q:P)|o (p q:P)|i (p q:P)|f
noncomputable def tv(z:List Int)(t:T):Nat×Int:=
 T.rec (motive:=λ_=>Nat×Int) (λi=>((IntList.get z i).toNat,IntList.get z i)) (λk=>(k,(k:Int))) (λ_ _ s t=>(s.1+t.1,s.2+t.2)) (λ_ _ s t=>(s.1-t.1,s.2-t.2)) (λk _ t=>(k*t.1,(k:Int)*t.2)) (λ_ _ s t=>(fF s.1 t.1,fF s.2 t.2)) (λ_ _ s t=>(fk s.1 t.1,fk s.2 t.2)) (λ_ t=>(t.1,(t.1:Int))) (λ_ t=>(0,- t.2)) (λ_ t=>(t.2.toNat,(t.2.toNat:Int))) t
def dn(z:List Int)(p:P):Prop:=
 P.rec (motive:=λ_=>Prop) (λb s t=>bif b then (tv z s).2<=(tv z t).2 else (tv z s).1<=(tv z t).1) (λb s t=>bif b then (tv z s).2=(tv z t).2 else (tv z s).1=(tv z t).1) (λ_ _ p q=>p/\q) (λ_ _ p q=>p\/q) (λ_ _ p q=>p->q) False p
noncomputable abbrev L:=LinearCombo
noncomputable def cc(k:Int):L:=⟨k,[]⟩
noncomputable abbrev K:=L->List L->Bool
noncomputable def lf(n:Nat)(t:T):Bool->List L->K->Bool:=
 T.rec (motive:=λ_=>Bool->List L->K->Bool)
  (λi b cs k=>(b||i.blt n)&&k (.coordinate i) cs)
  (λj _ cs k=>k (cc j) cs)
  (λ_ _ s t b cs k=>s b cs λl cs=>t b cs λr cs=>k (l+r) cs)
  (λ_ _ s t b cs k=>s b cs λl cs=>t b cs λr cs=>bif b then k (l-r) cs else k (l-r) ((l-r)::cs)&&k (cc 0) ((r-l)::cs))
  (λj _ t b cs k=>t b cs λl cs=>k ((j:Int)*l) cs)
  (λ_ _ s t b cs k=>s b cs λl cs=>t b cs λr cs=>k l ((l-r)::cs)&&k r ((r-l)::cs))
  (λ_ _ s t b cs k=>s b cs λl cs=>t b cs λr cs=>k r ((l-r)::cs)&&k l ((r-l)::cs))
  (λ_ t _ cs k=>t ai cs k)
  (λ_ t b cs k=>b&&t b cs λl cs=>k (-l) cs)
  (λ_ t _ cs k=>t ag cs λl cs=>k l ((l-cc 0)::cs)&&k (cc 0) ((cc 0-l)::cs)) t
section
variable{z:List Int}{cs:List L}{l r:L}{n:Nat}
def tQ(z:List Int)(cs:List L):Prop:=∀l∈cs,0<=l.eval z
noncomputable def Va(b:Bool)(p:Nat×Int):Int:=bif b then p.2 else p.1
theorem tQ.sub(h:tQ z cs)(g:r.eval z<=l.eval z):tQ z ((l-r)::cs):=
 List.forall_mem_cons.mpr ⟨(LinearCombo.sub_eval l r z).symm▸Int.sub_nonneg_of_le g,h⟩
theorem zb6(k):(cc k).eval z=k:=lz k
theorem tQ.lt(h:tQ z cs)(g:r.eval z<l.eval z):tQ z ((l-(r+cc 1))::cs):=
 h.sub (bW (nH ((LinearCombo.add_eval r (cc 1) z).trans (congrArg (r.eval z + ·) (zb6 1)))) g)
theorem an(h:(a&&b)=ag):a=ag/\b=ag:=Bool.and_eq_true_iff.mp h
def Ok(n:Nat)(z:List Int)(t:T):Prop:=
 ∀(b:Bool) (cs:List L) (k:K),tQ z cs->lf n t b cs k=ag->(∀l cs,tQ z cs->l.eval z=Va b (tv z t)->k l cs=ag->False)->False
def Bo(z:List Int)(b:Bool)(s t:T)(l r:L)(cs:List L)(k:Bool):Prop:=
 tQ z cs->l.eval z=Va b (tv z s)->r.eval z=Va b (tv z t)->k=ag->False
theorem two(hs:Ok n z s)(ht:Ok n z t){k:L->L->List L->Bool}(h:tQ z cs)(e:lf n s b cs (λl cs=>lf n t b cs λr cs=>k l r cs)=ag)
  (f:∀l r cs,Bo z b s t l r cs (k l r cs)):False:=
 hs b cs _ h e λl cs h1 e1 e=>ht b cs _ h1 e λr cs h2 e2 e=>f l r cs h2 e1 e2 e
theorem V_n(b)(k):Va b (k,(k:Int))=k:=by cases b<;>exact rfl
theorem zuz(b)(p q):Va b (p.1+q.1,p.2+q.2)=Va b p+Va b q:=by cases b<;>exact rfl
theorem zuC(b)(k)(q):Va b (k*q.1,(k:Int)*q.2)=k*Va b q:=by cases b<;>exact rfl
theorem zsc(b)(p q):Va b (fF p.1 q.1,fF p.2 q.2)=fF (Va b p) (Va b q):=by
 cases b with
 | true=>exact rfl
 | false=>exact(lA q.1 p.1).elim (λh=>(congrArg dD (pj h)).trans (lT (Int.ofNat_le.mpr h)).symm) λh=>(congrArg dD (oB h)).trans (iS (Int.ofNat_le.mpr h)).symm
theorem zsd(b)(p q):Va b (fk p.1 q.1,fk p.2 q.2)=fk (Va b p) (Va b q):=by
 cases b with
 | true=>exact rfl
 | false=>exact(lA p.1 q.1).elim (λh=>(congrArg dD (Nat.min_eq_left h)).trans (gI (Int.ofNat_le.mpr h)).symm) λh=>(congrArg dD (Nat.min_eq_right h)).trans (gj (Int.ofNat_le.mpr h)).symm
theorem zuD(p q)(h:Va ai q<=Va ai p):Va ai (p.1-q.1,p.2-q.2)=Va ai p-Va ai q:=Int.ofNat_sub (Int.ofNat_le.mp h)
theorem zsF(p q)(h:Va ai p<=Va ai q):Va ai (p.1-q.1,p.2-q.2)=0:=congrArg dD (Nat.sub_eq_zero_of_le (Int.ofNat_le.mp h))
theorem spl(ea:l.eval z=a)(eb:r.eval z=b)(h:tQ z cs)(e:(A&&B)=ag)
  (f:b<=a->tQ z ((l-r)::cs)->A=ag->False)(g:a<=b->tQ z ((r-l)::cs)->B=ag->False):False:=
 (rU b a).elim (λq=>f q (h.sub (ea▸eb▸q)) (an e).1) λq=>g q (h.sub (ea▸eb▸q)) (an e).2
theorem zdg(hn:∀i,i.blt n=ag->0<=IntList.get z i)(t:T):Ok n z t:=by
 induction t with
 | v i=>
  intro b cs k h e f;cases b with
  | true=>exact f _ _ h (LinearCombo.coordinate_eval i z) e
  | false=>exact f _ _ h ((LinearCombo.coordinate_eval i z).trans (cN (hn i (an e).1)).symm) (an e).2
 | n j=>exact λb cs k h e f=>f _ _ h ((zb6 _).trans (V_n b j).symm) e
 | a s t hs ht=>exact λb cs k h e f=>two hs ht h e λl r cs h e1 e2 e=>f _ _ h ((LinearCombo.add_eval l r z).trans ((congr (congrArg _ e1) e2).trans (zuz b _ _).symm)) e
 | s s t hs ht=>
  intro b cs k h e f;refine two hs ht h e λl r cs h e1 e2 e=>?_;have e3:=(LinearCombo.sub_eval l r z).trans (congr (congrArg _ e1) e2);cases b with
  | true=>exact f _ _ h e3 e
  | false=>exact spl e1 e2 h e (λq h e=>f _ _ h (e3.trans (zuD _ _ q).symm) e) λq h e=>f _ _ h ((zb6 0).trans (zsF _ _ q).symm) e
 | m j t ht=>exact λb cs k h e f=>ht b cs _ h e λl cs h e1 e=>f _ _ h ((LinearCombo.smul_eval l j z).trans ((congrArg _ e1).trans (zuC b j _).symm)) e
 | x s t hs ht=>exact λb cs k h e f=>two hs ht h e λl r cs h e1 e2 e=>spl e1 e2 h e (λq h e=>f _ _ h (e1.trans ((zsc b _ _).trans (lT q)).symm) e) λq h e=>f _ _ h (e2.trans ((zsc b _ _).trans (iS q)).symm) e
 | y s t hs ht=>exact λb cs k h e f=>two hs ht h e λl r cs h e1 e2 e=>spl e1 e2 h e (λq h e=>f _ _ h (e2.trans ((zsd b _ _).trans (gj q)).symm) e) λq h e=>f _ _ h (e1.trans ((zsd b _ _).trans (gI q)).symm) e
 | c t ht=>exact λb cs k h e f=>ht ai cs k h e λl cs h e1 e=>f _ _ h (e1.trans (V_n b _).symm) e
 | g t ht=>
  intro b cs k h e f;cases b with
  | true=>exact ht ag cs _ h e λl cs h e1 e=>f _ _ h ((LinearCombo.neg_eval l z).trans (congrArg _ e1)) e
  | false=>exact oE e
 | o t ht=>exact λb cs k h e f=>ht ag cs _ h e λl cs h e1 e=>spl e1 (zb6 0) h e (λq h e=>f _ _ h (e1.trans ((V_n b _).trans (cN q)).symm) e) λq h e=>f _ _ h ((zb6 0).trans ((V_n b _).trans (congrArg dD (Int.toNat_of_nonpos q))).symm) e
abbrev J:=List L->(List L->Bool)->Bool
noncomputable def jn(w:Bool)(A B:J):J:=λcs k=>bif w then A cs (λcs=>B cs k) else A cs k&&B cs k
noncomputable def ps(n:Nat)(p:P):Bool->J:=
 P.rec (motive:=λ_=>Bool->J)
  (λb s t w cs k=>lf n s b cs λl cs=>lf n t b cs λr cs=>k ((bif w then r-l else l-(r+cc 1))::cs))
  (λb s t w cs k=>lf n s b cs λl cs=>lf n t b cs λr cs=>bif w then k ((r-l)::(l-r)::cs) else k ((r-(l+cc 1))::cs)&&k ((l-(r+cc 1))::cs))
  (λ_ _ p q w=>jn w (p w) (q w)) (λ_ _ p q w=>jn (!w) (p w) (q w)) (λ_ _ p q w=>jn (!w) (p (!w)) (q w)) (λw cs k=>w||k cs) p
def uT(z:List Int)(A:J)(a:Prop):Prop:=∀(cs:List L) (k:List L->Bool),tQ z cs->a->A cs k=ag->(∀cs,tQ z cs->k cs=ag->False)->False
theorem jn1(ha:uT z A a)(hb:uT z B b):uT z (jn ag A B) (a/\b):=
 λcs k h g e f=>ha cs _ h g.1 e λcs h e=>hb cs k h g.2 e f
theorem jn0(ha:uT z A a)(hb:uT z B b):uT z (jn ai A B) (a\/b):=
 λcs k h g e f=>g.elim (λg=>ha cs k h g (an e).1 f) λg=>hb cs k h g (an e).2 f
theorem uT.of(h:uT z A a)(i:b->a):uT z A b:=λcs k s g=>h cs k s (i g)
theorem zuB(b)(s t):dn z (.l b s t)↔Va b (tv z s)<=Va b (tv z t):=by
 cases b with
 | false=>exact Int.ofNat_le.symm
 | true=>exact mK
theorem zuA(b)(s t):dn z (.e b s t)↔Va b (tv z s)=Va b (tv z t):=by
 cases b with
 | false=>exact Int.ofNat_inj.symm
 | true=>exact mK
theorem zvq(hn:∀i,i.blt n=ag->0<=IntList.get z i)(p):uT z (ps n p ag) (dn z p)/\uT z (ps n p ai) (¬dn z p):=by
 induction p with
 | l b s t=>exact⟨λcs k h g e f=>two (zdg hn s) (zdg hn t) h e λl r cs h e1 e2 e=>f _ (h.sub (e1▸e2▸(zuB b s t).mp g)) e,
   λcs k h g e f=>two (zdg hn s) (zdg hn t) h e λl r cs h e1 e2 e=>f _ (h.lt (e1▸e2▸Int.not_le.mp (mt (zuB b s t).mpr g))) e⟩
 | e b s t=>exact⟨λcs k h g e f=>two (zdg hn s) (zdg hn t) h e λl r cs h e1 e2 e=>
    have g:=e1.trans (((zuA b s t).mp g).trans e2.symm)
    f _ ((h.sub (nH g.symm)).sub (nH g)) e,
   λcs k h g e f=>two (zdg hn s) (zdg hn t) h e λl r cs h e1 e2 e=>(Int.lt_or_gt_of_ne (mt (zuA b s t).mpr g)).elim (λg=>f _ (h.lt (e1▸e2▸g)) (an e).1) λg=>f _ (h.lt (e1▸e2▸g)) (an e).2⟩
 | a p q hp hq=>exact⟨jn1 hp.1 hq.1,(jn0 hp.2 hq.2).of Classical.not_and_iff_not_or_not.mp⟩
 | o p q hp hq=>exact⟨jn0 hp.1 hq.1,(jn1 hp.2 hq.2).of not_or.mp⟩
 | i p q hp hq=>exact⟨(jn0 hp.2 hq.1).of λg=>(Classical.em _).elim (λa=>.inr (g a)) .inl,(jn1 hp.1 hq.2).of Classical.not_imp.mp⟩
 | f=>exact⟨λ_ _ _ g _ _=>g,λcs k h _ e f=>f cs h e⟩
noncomputable def cm(a b:Nat)(l r:L):List L:=bif (a*b).beq 0 then [] else [(a:Int)*l+(b:Int)*r]
noncomputable def step(i:Nat)(cs:List L):List L:=
 cs.filter (λl=>(IntList.get l.coeffs i).natAbs.beq 0)++cs.flatMap λl=>cs.flatMap λr=>cm (- IntList.get r.coeffs i).toNat (IntList.get l.coeffs i).toNat l r
theorem zry(i)(h:tQ z cs):tQ z (step i cs):=by
 refine List.forall_mem_append.mpr ⟨λl hl=>h l (List.mem_filter.mp hl).1,λx hx=>?_⟩;obtain⟨l,hl,hx⟩:=List.mem_flatMap.mp hx;obtain⟨r,hr,hx⟩:=List.mem_flatMap.mp hx;have go:∀(a b:Nat),x∈cm a b l r->0<=x.eval z:=by
  intro a b hx;unfold cm at hx;cases hc:(a*b).beq 0 with
  | true=>rw[hc] at hx;exact absurd hx aZ
  | false=>
   rw[hc] at hx;rw[List.mem_singleton.mp hx,LinearCombo.add_eval,LinearCombo.smul_eval,LinearCombo.smul_eval];exact Int.add_nonneg (pL (cR a) (h l hl)) (pL (cR b) (h r hr))
 exact go _ _ hx
noncomputable def B4(l:L):Bool:=decide (l.const<0)&&l.coeffs.all λx=>decide (x=0)
noncomputable def ref(n:Nat):List L->Bool:=sr (motive:=λ_=>List L->Bool) (λcs=>cs.any B4) (λi f cs=>cs.any B4||f (step i cs)) n
theorem znw(h:tQ z cs)(e:cs.any B4=ag):False:=by
 obtain⟨l,hl,e⟩:=List.any_eq_true.mp e;have e1:l.eval z=l.const:=(congrArg (l.const + ·) (IntList.dot_eq_zero_of_left_eq_zero λx hx=>H4 (List.all_eq_true.mp (an e).2 x hx))).trans (lz _);exact absurd (e1▸h l hl) (Int.not_le.mpr (H4 (an e).1))
theorem ztM(n):∀cs,tQ z cs->ref n cs=ag->False:=by
 induction n with
 | zero=>exact λcs h e=>znw h e
 | succ n ih=>exact λcs h e=>(Bool.or_eq_true_iff.mp e).elim (znw h) (ih _ (zry n h))
theorem zoc(c:List Nat):∀i,i.blt c.length=ag->0<=IntList.get (c.map dD++z) i:=by
 induction c with
 | nil=>exact λi h=>oE h
 | cons a c ih=>exact λi h=>Nat.casesOn (motive:=λi=>i.blt (c.length+1)=ag->0<=IntList.get (dD a::(c.map dD++z)) i) i (λ_=>cR a) (λi h=>ih i h) h
noncomputable def ck(p:P)(m k:Nat):Bool:=ps m p ai ((bJ m).map .coordinate) (ref (m+k))
theorem lin(p)(c:List Nat)(z:List Int)(h:ck p c.length z.length=ag:=by kernel_rfl):dn (c.map dD++z) p:=by
 refine cj λg=>(zvq (zoc c) p).2 _ _ (λl hl=>?_) g h (ztM _);obtain⟨i,hi,rfl⟩:=List.mem_map.mp hl;exact LinearCombo.coordinate_eval i _▸zoc c i (Nat.ble_eq.mpr (List.mem_range.mp hi))
noncomputable def d1(k:T->T)(p:T×Nat):T×Nat:=(k p.1,p.2)
noncomputable def d2(k:T->T->T)(r:Nat->T×Nat)(p:T×Nat):T×Nat:=d1 (k p.1) (r p.2)
noncomputable def dT(f:Nat):Nat->T×Nat:=sr (motive:=λ_=>Nat->T×Nat) (λc=>(.v 0,c)) (λ_ r c=>
 bif (c%32).blt 8 then (.v (c%32),c/32) else bif (c%32).blt 18 then (.n (c%32-8),c/32) else bif (c%32).beq 20 then d2 .a r (r (c/32)) else bif (c%32).beq 21 then d2 .s r (r (c/32)) else bif (c%32).beq 18 then (.n (c/32%1048576),c/33554432)
 else bif (c%32).beq 25 then d1 .c (r (c/32)) else bif (c%32).beq 22 then d1 (.m (c/32%1048576)) (r (c/33554432)) else bif (c%32).beq 23 then d2 .x r (r (c/32)) else bif (c%32).beq 24 then d2 .y r (r (c/32)) else bif (c%32).beq 26 then d1 .g (r (c/32)) else bif (c%32).beq 27 then d1 .o (r (c/32)) else (.n (c/32%1152921504606846976),c/36893488147419103232)) f
noncomputable def e1(k:P->P)(p:P×Nat):P×Nat:=(k p.1,p.2)
noncomputable def e2(k:P->P->P)(r:Nat->P×Nat)(p:P×Nat):P×Nat:=e1 (k p.1) (r p.2)
noncomputable def f1(k:T->P)(p:T×Nat):P×Nat:=(k p.1,p.2)
noncomputable def f2(k:T->T->P)(p:T×Nat):P×Nat:=f1 (k p.1) (dT 20 p.2)
noncomputable def dP(f:Nat):Nat->P×Nat:=sr (motive:=λ_=>Nat->P×Nat) (λc=>(.f,c)) (λ_ r c=>
 bif (c%32).blt 2 then f2 (.l ((c%32).beq 1)) (dT 20 (c/32)) else bif (c%32).blt 4 then f2 (.e ((c%32).beq 3)) (dT 20 (c/32)) else bif (c%32).beq 6 then e2 .i r (r (c/32)) else bif (c%32).beq 4 then e2 .a r (r (c/32)) else bif (c%32).beq 5 then e2 .o r (r (c/32)) else (.f,c/32)) f
theorem zcV(n)(c:List Nat)(z:List Int)(h:ck (dP 20 n).1 c.length z.length=ag:=by kernel_rfl):dn (c.map dD++z) (dP 20 n).1:=lin _ c z h
end
end La
open La
section
variable{a b c d e f g:Nat}{u v w x y:Int}(n:Nat)
theorem zd(h:ck (dP 20 n).1 1 0=ag:=by kernel_rfl):dn [.ofNat a] (dP 20 n).1:=lin _ [a] [] h
theorem zb(h:ck (dP 20 n).1 2 0=ag:=by kernel_rfl):dn [.ofNat a,.ofNat b] (dP 20 n).1:=lin _ [a,b] [] h
theorem zc(h:ck (dP 20 n).1 3 0=ag:=by kernel_rfl):dn [.ofNat a,.ofNat b,.ofNat c] (dP 20 n).1:=lin _ [a,b,c] [] h
theorem zg(h:ck (dP 20 n).1 4 0=ag:=by kernel_rfl):dn [.ofNat a,.ofNat b,.ofNat c,.ofNat d] (dP 20 n).1:=lin _ [a,b,c,d] [] h
theorem zy(h:ck (dP 20 n).1 5 0=ag:=by kernel_rfl):dn [.ofNat a,.ofNat b,.ofNat c,.ofNat d,.ofNat e] (dP 20 n).1:=lin _ [a,b,c,d,e] [] h
theorem jw(h:ck (dP 20 n).1 6 0=ag:=by kernel_rfl):dn [.ofNat a,.ofNat b,.ofNat c,.ofNat d,.ofNat e,.ofNat f] (dP 20 n).1:=lin _ [a,b,c,d,e,f] [] h
theorem zco(h:ck (dP 20 n).1 7 0=ag:=by kernel_rfl):dn [.ofNat a,.ofNat b,.ofNat c,.ofNat d,.ofNat e,.ofNat f,.ofNat g] (dP 20 n).1:=lin _ [a,b,c,d,e,f,g] [] h
theorem zU(h:ck (dP 20 n).1 0 1=ag:=by kernel_rfl):dn [u] (dP 20 n).1:=lin _ [] [u] h
theorem qb(h:ck (dP 20 n).1 0 2=ag:=by kernel_rfl):dn [u,v] (dP 20 n).1:=lin _ [] [u,v] h
theorem zaJ(h:ck (dP 20 n).1 0 3=ag:=by kernel_rfl):dn [u,v,w] (dP 20 n).1:=lin _ [] [u,v,w] h
theorem zq2(h:ck (dP 20 n).1 0 5=ag:=by kernel_rfl):dn [u,v,w,x,y] (dP 20 n).1:=lin _ [] [u,v,w,x,y] h
theorem k9(h:ck (dP 20 n).1 1 1=ag:=by kernel_rfl):dn [.ofNat a,u] (dP 20 n).1:=lin _ [a] [u] h
end
end
section
open La
noncomputable abbrev La.v0:La.T:=.v 0
noncomputable abbrev La.v1:La.T:=.v 1
noncomputable abbrev La.v2:La.T:=.v 2
noncomputable abbrev La.v3:La.T:=.v 3
noncomputable abbrev La.v4:La.T:=.v 4
noncomputable abbrev La.n0:La.T:=.n 0
noncomputable abbrev La.n1:La.T:=.n 1
noncomputable abbrev La.n2:La.T:=.n 2
noncomputable abbrev La.n3:La.T:=.n 3
noncomputable abbrev La.n4:La.T:=.n 4
noncomputable abbrev La.n5:La.T:=.n 5
noncomputable abbrev La.n6:La.T:=.n 6
noncomputable abbrev La.n7:La.T:=.n 7
noncomputable abbrev La.P.p:=P.l ai
noncomputable abbrev La.P.z:=P.l ag
noncomputable abbrev La.P.q:=P.e ai
noncomputable abbrev La.P.w:=P.e ag
variable{a b c d e f g i j k m o:Nat}{u v w x y z s t r:Int}
theorem y0 : -(1000000000000000:Int)<(1:Int):=zcV 0x1290038d7ea4c680009ea81 [] []
theorem y1:0+1<=1:=zcV 0x94a280 [] []
theorem y2:(1:Int)<1000000000000000:=zcV 0x71afd498d000134a681 [] []
theorem y3:(1:Int)>0:=zcV 0x94a281 [] []
theorem y4:0<1:=zcV 0x94a280 [] []
theorem y6:0<=64:=zcV 0x204900 [] []
theorem y7:0<=u/\u<90->u.toNat+1<=90:=zU 0x5a9241ba000016a490502040486
theorem y11 : -1000000000<=u->0-1000000000<=u:=zU 0x7735940134542000000003b9aca009e826
theorem y12 : -1000000000000<u->-1000000000000000<u:=zU 0x4801c6bf526340004f54081200001d1a94a20013d5026
theorem y14:0<u->¬u=0:=zU 0x1d001980945026
theorem y24:0<=u->u=((u.toNat:Nat):Int):=zU 0xde40302026
theorem y33:u<1000000->u.toNat<1000000:=zU 0xf42409241ba03d09024905026
theorem y34:u<1000000000000->u<1000000000000000:=zU 0x1c6bf526340004d20a0400003a3529440026905026
theorem y42:¬0<=u->u<0:=zU 0x2120a04e0404c6
theorem y43:u+(1-1)=u:=zU 0x129a8283
theorem y47 : -1000000000000<v->u<1000000000000->(((u-v).toNat:Nat):Int)<1000000000000000:=qb 0xe35fa931a000269082bbcd0200001d1a94a2001348281305200001d1a94a20013d5026
theorem y55:u<v->u<=v:=qb 0x10042905026
theorem y58:v<u->¬u<=v:=qb 0x1c20098090d026
theorem y59:v>u->u<=v:=qb 0x10042905026
theorem y60:¬u>v->u<=v:=qb 0x40138121a04c6
theorem y62:¬v<u->u<=v:=qb 0x40138121a04c6
theorem y65 : -1000000000000000<(((u-v).toNat:Nat):Int):=qb 0x20aef290038d7ea4c680009ea81
theorem y97:u+1+(a:Int)=u+((a+1:Nat):Int):=k9 0x905321a03290d283
theorem y98:u+((a+1:Nat):Int)=u+(a:Int)+1:=k9 0x906434a2414c8683
theorem y99:a<=80/\b<=80->0<=u/\u<(a:Int)->0<=u/\u<90:=zcV 0x5a9245408901203291502240486000509040000a1200086 [a,b] [u]
theorem zzF:a<=80/\b<=80->0<=u/\u<(b:Int)->0<=u/\u<90:=zcV 0x5a9245408901207291502240486000509040000a1200086 [a,b] [u]
theorem zzG:u.toNat<b->b=a->u.toNat<a:=zcV 0x48b740002230522dd006 [a,b] [u]
theorem zzM:1<=a->¬a>1->a=1:=zd 0x240238129a00c602406
theorem zrU:1<=a->a-1<a:=zd 0x1290568002406
theorem ztZ:1<=a->0<a:=zd 0x4a28002406
theorem zt0:1<=a->1<=a:=zd 0x12002406
theorem zwv:1<=a->a=a-1+1:=zd 0x2520ad00202406
theorem zt1:2<=a->1<=a:=zd 0x12002806
theorem zt2:2<=a->2<=a:=zd 0x14002806
theorem zt3:a<400->a+1<590:=zd 0x49d24a414a00006424905006
theorem zzT:a<400->a<600:=zd 0x12c4920a00006424905006
theorem zzW:a<520->a+1<540:=zd 0x43924a414a00008224905006
theorem zzX:a<520->a+1<560:=zd 0x46124a414a00008224905006
theorem zzY:a<520->a+1<580:=zd 0x48924a414a00008224905006
theorem zzZ:a<540->a+1<550:=zd 0x44d24a414a00008724905006
theorem zz0:a<540->a+1<570:=zd 0x47524a414a00008724905006
theorem zz1:a<540->a+1<590:=zd 0x49d24a414a00008724905006
theorem zz2:a<550->a+1<560:=zd 0x46124a414a000089a4905006
theorem zz3:a<550->a+1<570:=zd 0x47524a414a000089a4905006
theorem zw7:a<560->a+1<570:=zd 0x47524a414a00008c24905006
theorem zz4:a<560->a+1<580:=zd 0x48924a414a00008c24905006
theorem zz5:a<560->a+1<590:=zd 0x49d24a414a00008c24905006
theorem zw8:a<570->a+1<580:=zd 0x48924a414a00008ea4905006
theorem zw9:a<570->a+1<590:=zd 0x49d24a414a00008ea4905006
theorem ziy:a<580->a+1<590:=zd 0x49d24a414a00009124905006
theorem zt4:a<80->a+1<=1000000:=zd 0x7a1204920a00001424905006
theorem zz8:a>0->a-1<a:=zd 0x4a415a000945006
theorem zz9:a>1->a-2+1<a:=zd 0x129502b4a00094d006
theorem zAc:a<=100->a<=1000000:=zd 0x7a12048000006490006
theorem zgS:a<=1000->a<=1000000:=zd 0x7a1204800003e890006
theorem zAd:a<=10000->a<=1000000:=zd 0x7a12048000271090006
theorem zAe:a<=1000000->Nat.succ a<=1000000000000:=zd 0x1d1a94a2001348280f424090006
theorem zgT:a<=1000000->a<=16777216:=zd 0x8000004c00f424090006
theorem zxa:a<=256->a<1000000:=zd 0x1e84812482800010090006
theorem zng:a<=3->a<=100:=zd 0x32480058006
theorem znh:a<=3->a<=1000:=zd 0x1f4480058006
theorem zkc:a<=3->a<=1000000:=zd 0x7a120480058006
theorem zAk:a<=300->a<1000000:=zd 0x1e84812482800012c90006
theorem zxc:a<=8->a<=1000:=zd 0x1f4480080006
theorem zt5:a<=8->a<=1000000:=zd 0x7a120480080006
theorem zxd:a<=80->a<=1000000:=zd 0x7a12048000005090006
theorem zt6:¬a-1=0->1<=a-1:=zd 0x9055203a120a88c6
theorem zxe:¬a<2->2<=a:=zd 0x1403a920a00c6
theorem zxf:¬a=0->a-1<a:=zd 0x4a415a00e8008c6
theorem zAm:¬a=0->0<a:=zd 0x128a00e8008c6
theorem zAn:¬a=0->1<=a:=zd 0x480e8008c6
theorem zAo:¬a=1->¬a=0->2<=a:=zd 0x1403a002318e9008c6
theorem zxg:¬a>0->a=0:=zd 0x200238128a00c6
theorem zAp:¬a<=1->2<=a:=zd 0x500e9000c6
theorem zt7:((a+1:Nat):Int)-1=(a:Int):=zd 0xca520a66a3
theorem zAs:((a+1:Nat):Int)>0:=zd 0x482994a281
theorem zAt:(a:Int)-(a:Int)<=0:=zd 0x2019066a1
theorem zAu:a+1-a=1:=zd 0x2409052a2
theorem zAv : -((a+1:Nat):Int)<=-1:=zd 0x4e920a6741
theorem zxh:0+1<=a+1:=zd 0x24144a280
theorem zAx:((a:Int)-0).toNat=a:=zd 0x100cd762
theorem zAy:(-1+((a+1:Nat):Int)).toNat=a:=zd 0x905329d5362
theorem zAz:fk 0 a<=0:=zd 0x802300
theorem zAB:a-0<=a-0:=zd 0x2015402a0
theorem zxi:0<=a:=zd 0x100
theorem zAC:1<=a+1:=zd 0x905120
theorem zxj:a<2*a+1:=zd 0x4800000ad448280
theorem zp0:a<a+1:=zd 0x241448280
theorem zxk:a<=a:=zd 0x0
theorem zAF:¬(a:Int)<0:=zd 0x3a120cd026
theorem zAG:¬a+1=a:=zd 0x1c0905046
theorem zAH:(a:Int)<(b:Int)->a<b:=zb 0x1482800e520cd026
theorem zAI:a<=80/\b<=80->a<1000:=zb 0x7d1248280000509040000a1200086
theorem zxl:b-1-a>0->a+(b-1-a)=b-1:=zb 0x90d4090d6a0a08090d6a945006
theorem zAJ:b<=80/\a<=80->a<1000:=zb 0x7d1248280000509000000a1208086
theorem zAK:fF (a:Int) (b:Int)<=3->a<=3:=zb 0x2c0058720cdc26
theorem zAL:fF (a:Int) (b:Int)<=3->¬fF (a:Int) (b:Int)>3:=zb 0x1c39066e95d02658720cdc26
theorem zAM:fF (b:Int) (a:Int)<=3->a<=3:=zb 0x2c0058321cdc26
theorem zAO:a+(b+1)<100->a<100:=zb 0x324920a00001924948680a5006
theorem zxn:a+(b+1)<=1000000->a+b<=1000000:=zb 0x1e8481208280f42409243405006
theorem zxo:a+(b+1)<=1000000->a<1000000:=zb 0x1e8481248280f42409243405006
theorem zAT:a+(b+1)<=3->a<=3:=zb 0x2c005a43405006
theorem zAV:a+(b+1)<=8->a+b<=8:=zb 0x10082808243405006
theorem zxp:a+1<b+1->a<b:=zb 0x520a0121a2520a5006
theorem zxq:a+1<b->¬a+1+1=b->a+1+1<b:=zb 0x52948294a00e14a414a08c60a520a5006
theorem zAW:a+1<b->a+(b-a)<=b:=zb 0x401a82800a520a5006
theorem zAX:a+1<b->a+1<b:=zb 0x529052800a520a5006
theorem zgU:a+1<b->a<b:=zb 0x1482800a520a5006
theorem zAY:a+1<b->a<=b:=zb 0x4000a520a5006
theorem zrV:a+1<=b+1->a<=b:=zb 0x4004868905006
theorem zxr:a+1<=b->a+1+1<=2*b+1:=zb 0x4840000ad44a414a002905006
theorem zAZ:a+1<=b->a+1+1<=b+1:=zb 0x24344a414a002905006
theorem zp1:a+1<=b->a<=b:=zb 0x10002905006
theorem zA0:a+100<b->a+(10+10)<b:=zb 0x1480005480002a54052800a40019240a5006
theorem zt8:a+3000<b->a+1+100<b:=zb 0x14800324920a52800a402ee240a5006
theorem zxs:a+b=0->a=0:=zb 0x80090105046
theorem zxt:b+1<a->0<a-b:=zb 0x4154a28002521a5006
theorem zxu:b+1<=a->1<=a:=zb 0x480090d006
theorem zxv:b-a>0->a+(b-a)=b:=zb 0x401a8282006a945006
theorem zt9:1<=a->a<=b->a-1<b:=zb 0x529056800800602406
theorem zA6:1<=a->¬a-b>0->a-1<b:=zb 0x14a415a00e105528a00c602406
theorem zua:1<=a->1<=a+b:=zb 0x10512002406
theorem zp2:1<=b->b<=a->1<=a:=zb 0x120004060a406
theorem zub:1<=b->a+b-1<a+b:=zb 0x4144a420a56800a406
theorem zuc:2<=a->a<=b->a-1<b:=zb 0x529056800800602806
theorem zA8:2<=b->a=b->0<a:=zb 0x4a280080460a806
theorem zud:a<b+1->a<=b:=zb 0x4004868905006
theorem zxy:a<b->¬a+1=b->a+1<b:=zb 0x14a414a00e1482823182905006
theorem zBa:a<b->a+1+(b-(a+1))<=b:=zb 0x148281aa414a002905006
theorem zBb:a<b->fk (a+1) b=a+1:=zb 0x24140a414c082905006
theorem zxA:a<b->fk a b=a:=zb 0x20c082905006
theorem zBc:a<b->a+0<b:=zb 0x14a014a002905006
theorem zBd:a<b->a+1<b+1:=zb 0x24344a414a002905006
theorem zkd:a<b->a+1<=b:=zb 0x520a002905006
theorem zxB:a<b->a<b+1:=zb 0x90d120a002905006
theorem zue:a<b->a<b:=zb 0x520a002905006
theorem zrW:a<b->a<=b-1:=zb 0x24350002905006
theorem zgV:a<b->a<=b:=zb 0x10002905006
theorem zxD:a=b->b<=3->a<=3:=zb 0x2c005840608046
theorem zBf:a=b->a<=0+b:=zb 0x14500008046
theorem zBg:a=b->a<=b+1:=zb 0x90d00008046
theorem zxE:a=b->a<=b:=zb 0x40008046
theorem zBk:a<=fF 1 (b-fF 0 b)->a<=1:=zb 0x900028b86a9b8006
theorem zrX:a<=1000->b<=1000->a+b<=1000000:=zb 0x1e8481208280003e890406003e890006
theorem zBp:a<=b->fk (fF 0 b) b<=a->a=b:=zb 0x40200428be00608006
theorem zuf:a<=b->a>=b->a=b:=zb 0x4020040608006
theorem zBq:a<=b->¬a=b->a+1<=b:=zb 0x520a00e1008c608006
theorem zBs:a<=b->0+a<=b:=zb 0x10228008006
theorem zxG:a<=b->fF a b=b:=zb 0x1082e208006
theorem zug:a<=b->a+(b-a)=b:=zb 0x401a828208006
theorem zke:a<=b->a<=b:=zb 0x40008006
theorem zxH:b<a->¬b+1=a->0<a-(b+1):=zb 0x243405528a00e048682318090d006
theorem zrY:b<a->a+1-(b+1)<a+1-b:=zb 0x1482954a43448295a00090d006
theorem zBx:b<a->0<(a:Int)-(b:Int):=zb 0x720cd528a04090d006
theorem zxI:b<a->0<a:=zb 0x128a00090d006
theorem zBy:b=a+1->a<b:=zb 0x520a0120a0446
theorem zBz:b=a+1->a≠b:=zb 0x1c2011920a0446
theorem zp3:b=a+1->a<=b:=zb 0x100120a0446
theorem zxJ:b=a+1->¬a=b:=zb 0x1c2011920a0446
theorem zxK:b=a+3->a<=b:=zb 0x100160a0446
theorem zBB:b=1->a<b->a=0:=zb 0x8008290500648446
theorem zBC:b=a->a=b:=zb 0x40200446
theorem zuh:b=a->a<=b:=zb 0x40000446
theorem zui:b<=100000->a<=b->a<=1000000:=zb 0x7a120480008006186a090406
theorem zuj:b<=1000000->b=a->(a:Int)<9223372036854775808:=lin (.i (.p v1 (.n 1000000)) (.i (.q v1 v0) (.z (.a (.c v0) n1) (.n 9223372036854775808)))) [a,b] []
theorem zxM:b<=1000000->b=a->a<=1000000:=zb 0x7a120480000446f424090406
theorem zgW:b<=1000000->b=a->a<=16777216:=zb 0x8000004c0000446f424090406
theorem zBI:¬(b:Int)<(a:Int)->a<=b:=zb 0x1000e0ca439a04c6
theorem zBJ:¬a<b->¬b<a->a=b:=zb 0x40238121a00c638520a00c6
theorem zBK:¬a<b->¬a+1<b+1:=zb 0x1d21a2520a500638520a00c6
theorem zBL:¬a>=b+1->a<=b:=zb 0x40038121a00c6
theorem zBM:¬a>=b->a+(b-a)<=b:=zb 0x1006a0a00e0080c6
theorem zxN:¬b<a->a<=b:=zb 0x40038121a00c6
theorem zBN:¬b=0->a=b->a-1<b:=zb 0x14a415a0020118e8088c6
theorem zrZ:¬b=0->a=b->1<=a:=zb 0x48020118e8088c6
theorem zBO:¬b>=a->1<=a-b:=zb 0x415480e1000c6
theorem zBP:(a:Int)-((b+1:Nat):Int)=(a:Int)-(b:Int)-1:=zb 0x2439066b548699066a3
theorem zBQ:a+(b+1)-1=a+b:=zb 0x4144a434052a2
theorem zp4:a+1+b=a+(b+1):=zb 0x24340502905282
theorem zBU:fk (fF (fF a 1) b) b=b:=zb 0x108520bdf02
theorem zxO:a<a+(b+1):=zb 0x90d01448280
theorem zkf:a<=a+b:=zb 0x105000
theorem zBW:(b:Int)=u->v<u->v=(a:Int)->a<b:=zcV 0x1482800646330923a04c20e466 [a,b] [u,v]
theorem zBY:fF 0 b+1<=a->a>=b-c:=zc 0x106a002428bd006
theorem zBZ:a+2*(b+1)+10<c->a+1+2*b+10<c:=zc 0x248000548200005648294a50024800054921a000015814a5006
theorem zB0:a+2*c+10<b->a<b:=zc 0xa41400520001521000015814a5006
theorem zB1:a+c+1<=b->a<b:=zc 0x1482800a440a5006
theorem zB2:a<b-c\/b+1<=a->¬a=b-c:=zc 0x7106a0118090d0020d520a00a6
theorem zB3:a<=b/\b<c->a<=b:=zc 0x1000490d00100086
theorem zB4:a<=c/\c<b->a+b-1-c<b:=zc 0x148921052b5a00291500200086
theorem zB5:a<=c/\c<b->a<=a+b-1-c:=zc 0x921052b5000291500200086
theorem zB8:b<a\/c<=b->¬(a<=b/\b<c):=zc 0x712434004002182200121a00a6
theorem zB9:c<a-b\/a+1<=c->¬(a-b<c/\c<=a):=zc 0x1c020092105680218490500105522a00a6
theorem zCa:c<=a/\a<b->a<b:=zc 0x520a00290500010086
theorem zxQ:a+(b+1)<=c->a+b+1<=c:=zc 0x921052801243405006
theorem zni:a+(b+1)<=c->a+b<c:=zc 0x921052801243405006
theorem zxR:a+(b+1)<=c->a+b<=c:=zc 0x2082801243405006
theorem zCb:a+(c+1)=b->a<b:=zc 0x1482800a45405046
theorem zxS:a+(c+1)<=b->a<b:=zc 0x1482800a45405006
theorem zCd:a+(c+10)<b->a<b:=zc 0x520a00290000a90a80a5006
theorem zCe:a+2000<c->b+1<=100->a+2*b+10<c:=zc 0x1240002a4100002b0294a0000192490d00612401f4240a5006
theorem zCf:a+3000<c->b<=100->a+2*b+10<c:=zc 0x490000a9040000ac0a5280000649040612402ee240a5006
theorem zCg:a+b<=c->a-1+b<=c:=zc 0x20a415a004105006
theorem zCh:a+b<=c->a+(b-1)<=c:=zc 0x2486a0a004105006
theorem zCi:a+b<=c->a+b<=c:=zc 0x820a004105006
theorem zCj:a+c<=b->1<=c->a<b:=zc 0x520a00490182205006
theorem zCk:a+c<=b->a+(b-a)=b:=zc 0x1006a0a082205006
theorem zCl:a+c<=b->a<=b:=zc 0x10002205006
theorem zr0:a-b=c+1->a-(b+1)=c:=zc 0x921a02a248a8105446
theorem znj:b-a=c+1->a<b:=zc 0x14828048a800d446
theorem zCn:c+(b+1)<100->a<=c+1->a+b<100:=zc 0x3249210528048a80018001924948682a5006
theorem zCp:c+1=b->c<=a->a<b->a=b-1:=zc 0x90d4020a414018020182915046
theorem zr1:c+1<=b+1->a<c+1->a<=b:=zc 0x40048a89050064868915006
theorem zxT:c+1<=b->a<=a+b-(c+1):=zc 0x2454082950002915006
theorem zuk:1<=b+c->a+(b+c)-1<a+(b+c):=zc 0x20d0144a441a0295a0041a2406
theorem zCr:1<=b->a<=c->a+(a+b)-1-c<a+b:=zc 0x4144892105014ad680100060a406
theorem zxU:a<b+1+c->a<b+(c+1):=zc 0x24540d120a00490d28905006
theorem zCt:a<b+1-fk c (b+1)->a<=b-c:=zc 0x83500121a0b090d2a905006
theorem zCu:a<b+c+1->a<=b+c:=zc 0x834001220d28905006
theorem zCv:a<b+(c+1)->¬a=b+c->a<b+c:=zc 0x20d120a00e20d00231922a068905006
theorem zxW:a<b+c->a<b+c:=zc 0x834482801068905006
theorem zCw:a<b+c->a<=b+c-1:=zc 0x2441a54001068905006
theorem zCx:a<c->a+fk b (c-a)<=c:=zc 0x802a8700a004905006
theorem zCy:a<c->a-b<c:=zc 0x248415a004905006
theorem zCz:a<c->a-b<=c:=zc 0x820a804905006
theorem zCC:a=c->b=c+1->a<=b:=zc 0x100122a044610046
theorem zp5:a=c->c<b->a<=b:=zc 0x1000291500610046
theorem zr2:a=c->c<=b->a<=b:=zc 0x4000880610046
theorem zxZ:a=c->¬b<c->a<=b:=zc 0x40038921a00c610046
theorem zx0:a<=b+c->¬a=b+c->a<=b+c-1:=zc 0x910695000e20d00231841a0006
theorem zCE:a<=b-(c+1)->a>0->¬c+1+a=b->a<b-(c+1):=zc 0x915035482803840915282318094500648a81a8006
theorem zCF:a<=b-c->a>0->¬c+a=b->a<b-c:=zc 0x8354828038402a08c60251401841a8006
theorem zx1:a<=b->b-a<=c-fF 0 c->a=b:=zc 0x100848b8aa00d40608006
theorem zr3:a<=c->c<b->a<b:=zc 0x520a00291500610006
theorem zul:a<=c->c=b->a<=b:=zc 0x4000884610006
theorem zCH:a<=c->c<=b->a<=b:=zc 0x4000880610006
theorem zCI:a<=c->a-b<=c-0:=zc 0x2055082a010006
theorem zCK:b<c->fF 0 c+1<=a->a>=b+1:=zc 0x121a0009122f4018490d006
theorem zCL:b<c->a+b+1<=a+c:=zc 0x81448414a00490d006
theorem zum:b<c->a+b<a+c:=zc 0x81448414a00490d006
theorem zCM:b<c->a+b<=a+c:=zc 0x205020a00490d006
theorem zun:b=c+1->a<c->a≠b:=zc 0x7080461241401922a0446
theorem zCN:b=c+1->a=c+3->a≠b:=zc 0x70804658a8011922a0446
theorem zx2:b=c+3->a<c->a≠b:=zc 0x7080461241401962a0446
theorem zCO:b=c->a<c->a<b:=zc 0x520a00490500610446
theorem zr4:b=c->a<c->a<=b:=zc 0x1000490500610446
theorem zuo:b=c->a<=c->a<=b:=zc 0x4001000610446
theorem zCP:b=c->¬c<a->a<=b:=zc 0x40038122a00c610446
theorem zCQ:b<=c-(a+1)->b>0->¬a+1+b=c->a+1+b<c:=zc 0x248520a52803882905282318294500648282a8406
theorem zCR:b<=c-(a+1)->b>0->a+1+b<=c:=zc 0x20a414a00294500648282a8406
theorem zx3:b<=c-a->1<=b->a+b<=c:=zc 0x820a002901802a8406
theorem zCS:b<=c-a->b>0->¬a+b+1=c->¬a+b=c->a+b+1<c:=zc 0x92908294a00e208282318e248414a08c60a51401802a8406
theorem zCT:b<=c-a->b>0->a+b<=c:=zc 0x2082800a51401802a8406
theorem zp6:b<=c->a+b<=a+c:=zc 0x8140828010406
theorem zCX:c<a+b->a<=a+(a+b)-1-c:=zc 0x92105014ad4000828915006
theorem zCY:c<0->a<=b:=zc 0x10010915006
theorem zCZ:c<b->a+1-fk b (a+1)<=a-c:=zc 0x81548281c2414a802915006
theorem zx6:c<=a->a<=b->b<c+1->a=b:=zc 0x40248a890d0060800600806
theorem zC5:c<=b->a<0+(c-1)->a<b:=zc 0x520a0122aa2890500608806
theorem zC6:c<=b->a<0+c->a<b:=zc 0x148280122890500608806
theorem zC7:c<=b->a<c+(b-c)->a<b:=zc 0x520a0041a8a890500608806
theorem zx7:c<=b->c=a->a<=b:=zc 0x4000084608806
theorem zC8:c<=b->a+b-(a+b-(a+c))=a+c:=zc 0x81410281052a1052a208806
theorem zDa:¬b>=c-a->a+b<c:=zc 0x9210528038402a80c6
theorem zup:¬c<a+b->a+b<=c:=zc 0x820a00e105122a00c6
theorem zDc:¬c=a+b->¬a+b=c:=zc 0x1c410504638414108c6
theorem zDd:¬c=0->a+b+(c-1)=a+(b+c)-1:=zc 0x910680a5522a8414a08e8108c6
theorem zDe:a+b<=a+b/\a+b<a+b+(c+1):=zc 0x915020a5121052800828105004
theorem zx8:a+(b+c)-(a+b)=c:=zc 0x820a0834052a2
theorem zDf:a+(b+c)-1=a+b+c-1:=zc 0x24410529548834052a2
theorem zDg:a+b-(a+c)<=a+b:=zc 0x41410281052a0
theorem zx9:a+(b+c)=a+b+c:=zc 0x820a5041a0282
theorem zDi:a<=a+b-(a+b-(a+c)):=zc 0x205020a5420a5400
theorem zDj:¬(a+(b+1)<=a+b/\a+b<a+(b+1)+c):=zc 0x71243405289082940041448680a0086
theorem zDk:a+(b+1)<=c/\c<a+(b+1)+d->a+b<=c/\c<a+b+(d+1):=zg 0x91d020a5122a0041050041a434052891500248680a0086
theorem zDm:b+(c+1)<=a/\a<b+(c+1)+d->a-(b+c)=a-(b+(c+1))+1:=zg 0x2522a0680ad041a02a21a4540d2890500048a81a0086
theorem zyb:a+2*fF b d+10<c->a+2*b+10<c:=zg 0x920001520800015814a50024800054861b800015814a5006
theorem zyc:a+2*fF d b+10<c->a+2*b+10<c:=zg 0x920001520800015814a50024800054823b800015814a5006
theorem zDo:a+(b+1)-(c+1+1)<=d->a+b-(c+1)<=d:=zg 0xd22a0414a806948a9448680a5406
theorem zDp:a+b+(c+1)<=d->a+(b+1)+c<=d:=zg 0xc490d014a006915020a5006
theorem zDq:a+b+(d+1)<=c->a+b<c:=zg 0x248414a00491d020a5006
theorem zDt:fk a b<=c->1<=d->fk (a+1) b<=c+d:=zg 0xc540a414c00690184106006
theorem zDv:a+fk b (d-a)<=c->b<d-a->a+b<=c:=zg 0x820a0003aa434018401d43805006
theorem zyd:a+3000<d->b<=100->a+fk b c<d:=zg 0x3488380528000064904061a402ee240a5006
theorem zDz:a+d<=c->d-1-b>0->a+b<=c:=zg 0x2082800a475aa5140184305006
theorem zuq:a+d<=c->b<d->a+b-1<c:=zg 0x24a420a56801a4340184305006
theorem zp7:a+d<=c->b<d->a+b<c:=zg 0x921052801a4340184305006
theorem zDB:a+d<=c->b<=d->¬b=d->a+b-1<c:=zg 0x24a420a568038c22318610184305006
theorem zur:a+d<=c->b<=d->a+b<=c:=zg 0x820a00610184305006
theorem zDF:d+a<b->b<=c->a<fk b c-d:=zg 0x31071548280104060a403a5006
theorem zDG:d+b<=c->a<=d->a+b<=c:=zg 0x820a0060018411d006
theorem zyf:1<=c->d<=a-b->1<=d->1<=fk (a-b) c:=zg 0x2082b84806901820a8c0612406
theorem zDJ:1<=d->a+d+b<=c->a+(b+1)<=c:=zg 0x921a028010460a50061a406
theorem zDK:1<=d->fk a b<=c->fk (a+1) b<=c+fk (b-c) d:=zg 0xc41ae0540a414c0041060061a406
theorem zDM:a<b+fk (fF c 1) d->¬c=0->a<b+c:=zg 0x20d120a00e8108c61a457c068905006
theorem zDR:a=b+(c+d)->a=b+c+d:=zg 0xc41a500218a81a0046
theorem zDT:a=c+d->¬b<c+d->a<=b:=zg 0x40038c544868031862a0046
theorem zDU:a=c->b=d->fk c d=1->fk a b=1:=zg 0x2420c0923160461844610046
theorem zDW:a<=b-c->a<d->a<=fk (b-c) d:=zg 0xc41ae0001a41401841a8006
theorem zDX:a<=b->b<=d->d<a+c->a<=b/\b<a+c:=zg 0x8144868008004102891d0061840608006
theorem zyg:a<=d->d<b+c->a<b+c:=zg 0x83448280106891d00618006
theorem zDZ:a<=d->d<=b->b<a+c->a<=b/\b<a+c:=zg 0x8144868008004102890d00608c0618006
theorem zD1:a<=d->¬a=b+c->d=b+c->a<b+c:=zg 0x20d120a0041a0c4638834008c618006
theorem zD2:b<c->a+b<d->a+b+1<=a+fk c (d-a):=zg 0x751601448414a006908294018490d006
theorem zD3:b=c+d->a<c+d->a<b:=zg 0x520a0062a241401862a0446
theorem zus:c<d->a+b+c<a+(b+d):=zg 0xc340512208294a006915006
theorem zr5:c=a->d=b->c<=d->a<=b:=zg 0x4001880608c4600846
theorem zEa:c=d->b=d+1->a<c->¬a=b:=zg 0x7080461241401923a044618846
theorem zEe:c<=d->d<c->a<b:=zg 0x520a00491d00618806
theorem zEg:d<=fF 1 (b-c)->a+1=d->a<=fF 1 (b-(c+1)):=zg 0x24540d5370006905046106a9b8c06
theorem zut:d<=b-a->1<=d->a+fk (b-a) c<=b:=zg 0x4400d700a006901801a8c06
theorem zEj:d<=c->d=a+b->¬c=a+b->a+b<=c-1:=zg 0x915420a00e10504231820a0c4610c06
theorem zEk:d<=c->a+(a+b)-1-c<=a+(a+b)-1-d:=zg 0xd2105014ad44908280a56a010c06
theorem zEl:¬c=a+b->¬(a+(b+1)<=c/\c<a+(b+1)+d)->¬(a+b<=c/\c<a+b+(d+1)):=zg 0x748e81052891500208280218e348680a5122a00490d014010c638414108c6
theorem zEm:¬d<a+(b+c)->a+(b+c)+(d-(a+(b+c)))=d:=zg 0xc41a0283a8834052823883405123a00c6
theorem zuu:¬d<a+(b+c)->a+(b+c)<=d:=zg 0xc41a02803883405123a00c6
theorem zyk:a+(b+c)+d-(a+(b+c))=d:=zg 0xc41a028310680a52a2
theorem zEn:a+b+(c+d)=a+(b+c)+d:=zg 0xc41a029418a8105282
theorem zEo:a+b+c+e<=d->a+b+c<=d:=zy 0x310414a006410414a5006
theorem zym:a+2*fF b e+10<d->a+fk b c<d:=zy 0x6910700a50034800054881b800015814a5006
theorem zEp:a+(b+d)+e<=c->¬(a+b<=c/\c<a+(b+d)+e):=zy 0x720c340528915002082802184418680a5006
theorem zEr:a-b+(c-d)<=a+c-e-1->a-b+(c-d)<=a+c-(e+1):=λh=>ap h (bp (Nat.sub_sub _ _ _))
theorem zEs:a-b+(c-d)<=e-fF 0 (a+c)->a-b+(c-d)<=e-1:=have g {a b e:Nat}:a<=b->a<=e-fF 0 b->a<=e-1:=lin (.i (.p v0 v1) (.i (.p v0 (.s v2 (.x n0 v1))) (.p v0 (.s v2 n1)))) [a,b,e] [];g (cC (Nat.sub_le _ _) (Nat.sub_le _ _))
theorem zEt:a-b+(c-d)<=e->a-(b+1)+(c-d)<=e:=zy 0x418aa90d015a008315420ad006
theorem zEu:a-b+(c-d)<=e->a-b+(c-(d+1))<=e:=zy 0x448e82a8415a008315420ad006
theorem zEv:a-b+(c-d)<=e->a-b+(c-d)<=e:=zy 0x1062a8415a008315420ad006
theorem zEw:a<=b\/c<=d->a<=b\/c<=d+e:=zy 0x41d0400800518801000a6
theorem zEy:a+e<=d->b<e->a+(b-c)<d:=zy 0x34883505280224340186405006
theorem zEz:a+e<=d->¬c>=e-b->a+(b+c)<d:=zy 0xd220d014a00e2092a03186405006
theorem zyo:c<a+b->¬(a+b<=c/\c<a+(b+d)+e):=zy 0x1c830d014a245400820a00860828915006
theorem zEJ:c<=a->a<=b->b<c+fk (fF d 1) e->d=0->a=b:=zy 0x40240c4622477c0a890d0060800600806
theorem zEL:d<=a->a<b+(c+1)->d=b+e->¬a=b+e->a-1<b+c:=zy 0x20d1290568039034008c62068311922a06890500600c06
theorem zEM:d<=b->c<=e->a<d\/e<=a->a<b\/c<=a:=zy 0x400a4140140400d20a00a62080608c06
theorem zEQ:¬c<a+(b+d)+e->¬(a+b<=c/\c<a+(b+d)+e):=zy 0x720c34052891500208280218e418680a5122a00c6
theorem zER:¬c<a+b->c<a+(b+d)+e->a+b<=c/\c<a+(b+d)+e:=zy 0x1061a029448a8010414010830d014a2454018e105122a00c6
theorem zES:¬d<a+(b+c)+e->a+(b+c)+(d-(a+(b+c)))=d:=zy 0x310680a0ea20d014a08e410680a5123a00c6
theorem zyp:¬e<a+(b+c)+d->a+(b+c)+d<=e:=zy 0x10620d014a00e310680a5124a00c6
theorem zEU:a-b+(c-d)<=e-(f+1)->a-b+(c-d)<=e-1:=have g {a e f:Nat}:a<=e-(f+1)->a<=e-1:=lin (.i (.p v0 (.s v1 (.a v2 n1))) (.p v0 (.s v1 n1))) [a,e,f] [];g
theorem zEV:a-b+(c-d)<=f->a-b+(c-(d+1+e))<=f:=jw 0x14891d282a8415a00a315420ad006
theorem zEW:a-b+(d-e)<=f->a-(b+c)+(d-e)<=f:=jw 0x520ea20d015a00a41d420ad006
theorem zEY:d<=b\/c<=e->e<=a->a<=f->f<d->a<b\/c<=a:=jw 0x400a414014692d006280060100620801180a6
theorem zEZ:d<=b\/c<=e->e<=f->f<=a->a<d->a<b\/c<=a:=jw 0x400a4140146905006014062900620801180a6
theorem zE0:e<=c\/d<=a->a+b+f<=e->a+b<=c\/d<=a:=jw 0x180410500521420a500600c02200a6
theorem zE1:b+1<a->a-b+(c-d)<=e-f->a-(b+1)+(c-d)<=e-(f+1):=have g {a b c e f:Nat}:b+1<a->a-b+c<=e-f->a-(b+1)+c<=e-(f+1):=lin (.i (.p (.a (.a v1 n1) n1) v0) (.i (.p (.a (.s v0 v1) v2) (.s v3 v4)) (.p (.a (.s v0 (.a v1 n1)) v2) (.s v3 (.a v4 n1))))) [a,b,c,e,f] [];g
theorem zE4:d<c->a-b+(c-d)<=e-f->a-b+(c-(d+1))<=e-(f+1):=have g {a c d e f:Nat}:d<c->a+(c-d)<=e-f->a+(c-(d+1))<=e-(f+1):=lin (.i (.p (.a v2 n1) v1) (.i (.p (.a v0 (.s v1 v2)) (.s v3 v4)) (.p (.a v0 (.s v1 (.a v2 n1))) (.s v3 (.a v4 n1))))) [a,c,d,e,f] [];g
theorem zyq:d=e->a+(b+c)+f<=e->a+(b+c)<=d:=jw 0x310680a008510680a500620c46
theorem zE7:e<=d->a+b+c+f<=e->a+b+c<=d:=jw 0x310414a008510414a500619006
theorem zE8:e<=f->c<a\/a+(b+d)+f<=c->¬(a+b<=c/\c<a+(b+d)+e):=jw 0x1c830d014a245400820a008611461a029400122a00a629006
theorem zuv:¬e=0->d=f+e->a<b+(c+f)+e->a-(b+c)<d:=jw 0x34883405680214540d2890500621683118e8208c6
theorem zE9:b=d+e->a=f+g->¬c<f+(g+d)+e->a+b<=c:=zco 0x820a00e419a85a5122a00c63168011883a0446
theorem zFa:e=f->a+(b+c)+g<=f->d<=g->a+b+0+(c+d)<=e:=zco 0x418a8808294a00c3018a610680a500629046
theorem zys:e=f->a+(b+c)+g<=f->d<=g->a+(b+c)+d<=e:=zco 0x10620d014a00c3018a610680a500629046
theorem zFb:¬d=0->c=e+d->b=f+g->a<f+(g+e)+d->a-b<c:=zco 0x248415a0064350b4a2414018c5a044619282118e8188c6
theorem zyt:¬e=0->d=f+e->a<=g->g<b+(c+f)+e->a-(b+c)<d:=zco 0x34883405680214540d289350063000621683118e8208c6
end
section
open La
variable{a b c d e f g i j k m o:Nat}{u v w x y z s t r:Int}
theorem zFd:u<=fk v w->u<=v:=zaJ 0x100441c0026
theorem zFe:u<=fk w v->u<=v:=zaJ 0x100422c0026
theorem zFj:c<=b->a<c->a<b:=zc 0x520a00490500608806
theorem zyv:c<=b->a<c->a<=b:=zc 0x1000490500608806
theorem zFl:a+d<=c->e<=d->b<e->a+b<c:=zy 0x9210528022434018640184305006
theorem zyw:a-e<=c-d->e<=b->a-(b+1)<=c-(d+1):=zy 0x247415521a02a00900618aa405406
theorem zyx:e-b<=c-d->a<e->a-b<=c-(d+1):=zy 0x247415420a80890500618aa125406
theorem zFm:a+d<=c->e<d->f<=e->b<f->a+b<c:=jw 0x248414a00a90d006214061a4940184305006
theorem zyA:b-c<=a->c+fk a (b-c)<=d->¬d<b:=zg 0x1c291d0061883506054018020d406
theorem zyB:b+1<=a->¬d<b+1-fk a (b+1):=zc 0x748680c2434aa454018090d006
theorem zFn:1<=u/\u<=3->u=1\/u=2\/u=3:=zU 0x2c0350065480655802048486
theorem zFo:0<=u->0<=5+u:=zU 0x6d10102026
theorem zFp:0<=u->1<=1+u:=zU 0x4d12102026
theorem zFq:u<3->1+u<=3:=zU 0x2c09a056905026
theorem zFr:u<v->u=v->False:=qb 0x1c201982905026
theorem zyy:0<=u->u<(a:Int)->u.toNat<a:=k9 0x48774003290d0260a026
theorem zFs:b<=a/\c<=d->0<=u/\u<(b:Int)->0<=u/\u<(a:Int):=zcV 0xca494091012072925024404861880008086 [a,b,c,d] [u]
theorem zFt:b<=c/\d<=a->0<=u/\u<(d:Int)->0<=u/\u<(a:Int):=zcV 0xca4940910120f29250244048600c0208086 [a,b,c,d] [u]
theorem zFu:0<a->0<(a:Int):=zd 0x6528a040945006
theorem zFv:0<a->¬(a:Int)=0:=zd 0x3a0191980945006
theorem zFw:a<440->a+1<500:=zd 0x3e924a414a00006e24905006
theorem zkg:a<440->a+1<590:=zd 0x49d24a414a00006e24905006
theorem zuw:a<470->a<600:=zd 0x12c4920a000075a4905006
theorem zFx:a<530->a+1<540:=zd 0x43924a414a000084a4905006
theorem zFy:a<530->a+1<570:=zd 0x47524a414a000084a4905006
theorem zFB:a+1=b->a<b:=zb 0x520a002905046
theorem zFF:b<=50->a<=b->a<1000:=zb 0x7d1248280080060003290406
theorem zFH:c+1=b->a<c+1->a<b:=zc 0x520a0122a24140182915046
theorem zFM:a+b=d+e+1->d+e<=c->a+b<=c+1:=zy 0x24540828011074019241d28105046
theorem zFN:1<=u/\u<=100000000->-1000000000<=u:=zU 0x1dcd65004f41000000005f5e1009802048486
theorem zFO:1<=u/\u<=100000000->u<=1000000000:=zU 0x1dcd65004c01000000005f5e1009802048486
theorem zFP:1<=u/\u<=3->-1000000000<=u:=zU 0x1dcd65004f415802048486
theorem zFQ:1<=u/\u<=3->u<=1000000000:=zU 0x1dcd65004c015802048486
theorem zFR:u=1\/u=-1->-1000000000<=u:=zU 0x3b9aca009e829d006900ca6
theorem zFS:u=1\/u=-1->u<=1000000000:=zU 0x3b9aca0098029d006900ca6
theorem zyz:0<=u->u<2->u=0\/u=1:=zU 0x900d00195490502602026
theorem zFT:(a:Int)<=700000000->1000000000-(a:Int)≠0:=zd 0x740320000000773594013a8cc000000053724e01306426
theorem zFU:(a:Int)<=700000000->-(1000000000-(a:Int))≠0:=zd 0xe80640000000ee6b280275d0cc000000053724e01306426
theorem zFV:(a:Int)<=700000000->-(1000000000-(a:Int))<=1000000000:=zd 0x3b9aca0098320000000773594013ae82000000053724e01306426
theorem zFW:(a:Int)<=700000000->-1000000000<=1000000000-(a:Int):=zd 0x640000000ee6b28027500000003b9aca009e82000000053724e01306426
theorem zFX:1000000000-(a:Int)<=1000000000:=zd 0xee6b280260c80000001dcd65004ea1
theorem zFY : -1000000000<=-(1000000000-(a:Int)):=zd 0x640000000ee6b280275d00000001dcd65004f41
theorem zFZ:fF (a:Int) (b:Int)=((fF a b:Nat):Int):=zb 0x20be439066e3
theorem zF3:b-a=0->a<=b->a=b:=zb 0x100820019000d446
theorem zF7:b-a=c+1->a+1<=b:=zc 0x14828048a800d446
theorem zF9:c<b->a<=c->a<b:=zc 0x520a00400182915006
theorem zvN:0<=u->0<=9+u:=zU 0x8d10102026
theorem zvO:u<5->(9+u).toNat<=13:=zU 0xd90234d81a905026
theorem zvR:a<=13->0-1000000000<=1+(a:Int)/\1+(a:Int)<=1000000000/\1+(a:Int)≠0:=zd 0x3a0194d06600000003b9aca0098329a0480ca680000000773594013454240000d90006
theorem zvS:a<=13->a<=1000000:=zd 0x7a12048000000d90006
theorem zvT : -1000000000<=(a:Int):=zd 0xc80000001dcd65004f41
theorem zvU:a+b<=0->a=0:=zb 0x80090105006
theorem zvV:b+a<=0->a=0:=zb 0x8009000d006
theorem zvW:a+(b+1)=c->a+1+b=c:=zc 0x829052821243405046
theorem zvX:b<=13->a+(c+1)=b->(a:Int)<=1000000000:=zc 0x3b9aca00983210a454050460000d90406
theorem zvY:b<=13->a+(c+1)=b->a<=13:=zc 0x6c8000a454050460000d90406
theorem zvZ:b<=13->c+(d+1)=b->a=c->a<80:=zg 0xa1248280100460a474150460000d90406
theorem zv0:a+4096*(b+1)<=20480->a+4096<=90000:=zb 0x57e42402001205000a0012486802001605006
theorem zv2:a+1*(b+1)<=c->a+1*b<=c:=zc 0x8200003605002486800003605006
theorem zv4:c<=90000->a+(d+b)<=c->a+b<=100000:=zg 0x30d41208280104740500615f9090806
theorem zwC:0<=u/\u<(a:Int)->a<=80->u<32768:=k9 0x8000924340800284800303290d02140486
theorem zwD:a<=20001->u<(a:Int)->u<=1000000000:=k9 0xee6b280261083290d02604e2190006
theorem zwE:a<=10->100*a<=10000:=zd 0x271090000192c00000a90006
theorem zwF:a<=10->13+a<=23:=zd 0x2f2000006ca800000a90006
theorem zwG:a<=10->a<=100:=zd 0x3248000000a90006
theorem zwH:a<=1000->(a:Int)<=1000000000:=zd 0x3b9aca0098321003e890006
theorem zwI:a<=11->13+a<=24:=zd 0x312000006ca800000b90006
theorem zwJ:a<=3->(a:Int)<=3:=zd 0x5832158006
theorem zwK:fk a b=1->fk (a:Int) (b:Int)=1:=zb 0x90e419c0d2106046
theorem zwL:fk a b=1->1<=a:=zb 0x4812106046
theorem zwM:fk b a=1->1<=a:=zb 0x481200e046
theorem zwN:a+(b+1)<=11->a+1+b<=11:=zb 0x5c829052800000b9243405006
theorem zwO:a+(b+1)<=11->a<=10:=zb 0x548000000b9243405006
theorem zwP:a+3000<b->a<b:=zb 0x1482800a402ee240a5006
theorem zwQ:0<a->0<(a:Int)+(b:Int):=zb 0x720cd128a040945006
theorem zwV:a<=b->b<=11->a<=100:=zb 0x3248000000b9040608006
theorem zwW:b<=11->0<=a/\a<0+b/\u=v->a<=1000:=zcV 0x1f448001886145120a0080400860000b90406 [a,b] [u,v]
end
section
open La
variable{a b c d e f g i j k m o:Nat}{u v w x y z s t r:Int}
theorem zv6:0<=u->¬u<0:=zU 0x1d090502602026
theorem zsC:0<=u->¬u=-1:=zU 0xe9d006602026
theorem zv7:¬u+1=u:=zU 0x1c0905066
theorem zv8:0<a->a=a-1+1:=zd 0x9482b40080945006
theorem zsD:a<10->a<32:=zd 0x104920a000002a4905006
theorem zwa:a<32->a<=31:=zd 0x3f2000000824905006
theorem zwb:a<8->a<=31:=zd 0x3f20020905006
theorem zwc:a<8->a<=7:=zd 0xf0020905006
theorem zwf:a-0<=a:=zd 0x402a0
theorem zwh:a+(b+1)<=8->a+1+b<=8:=zb 0x4029052808243405006
theorem zwi:a+(b+1)<=8->a<=8:=zb 0x40008243405006
theorem zwj:b+1<a->a=a-1+1:=zb 0x2520ad00202521a5006
theorem zsE:b-a=0->a<=b->a=b:=zb 0x100820019000d446
theorem zwm:a<=b->b-a<=0->a=b:=zb 0x1009000d40608006
theorem zwn:a<=b->¬a<b->a=b:=zb 0x40238520a00c608006
theorem zwp:¬b<a->b≠a->a<b:=zb 0x520a00e0088c638121a00c6
theorem zwr:a+(b+1)=a+1+b:=zb 0x520a5121a0282
theorem zws:a<fk b c->a<b:=zc 0x1482801070905006
theorem zwt:a<=10*3->b<=10*c->c<=7->a+b<=100:=zc 0x324820a01e20184000156080cb0000ab0006
theorem zwu:c<b->¬c<a->a<b:=zc 0x520a00e048a803182915006
theorem zww:c<=31->a<=10*3->b<=10*c->a+b<=340:=zc 0xaa4820a004000156080cb0000ab00060001f90806
end
noncomputable def tP:List b7:=["bank","book","","span","rows","ticked","closed","entry","many","other","made","1","banks","Book","bark","boot","ook","matches","barred","group","days","scale","base","seen","step","old"]
noncomputable def kW:Nat:=26
noncomputable def zC(n:Nat):b7:=tP.getD n ""
theorem zj1:tP.Nodup:=by decide +kernel
theorem zrC:(tP.all λs=>nI s)=ag:=by decide +kernel
theorem zbv(h:n<kW):tP[n]? = ae (zC n):=by
 have h':n<tP.length:=h;unfold zC;rw[aF,aC h'];rfl
theorem ko(hn:n<kW)(hm:m<kW)(h:zC n=zC m):n=m:=by
 have h1:=zbv hn;have h2:=zbv hm;rw[<-h] at h2;exact(List.getElem?_inj (show n<tP.length from hn) zj1).mp (h1.trans h2.symm)
theorem zgF(b:Bool):b.toNat<kW:=by cases b<;>decide
theorem side_inj{a b:Bool}:zC a.toNat=zC b.toNat↔a=b:=by
 refine⟨λh=>?_,λh=>by rw[h]⟩;have h2:a.toNat=b.toNat:=ko (zgF a) (zgF b) h;cases a<;>cases b<;>first|rfl|cases h2
theorem zio(h:n<kW):nI (zC n)=ag:=List.all_eq_true.mp zrC _ (bX (zbv h))
inductive AV where
 | none
 | bool (b:Bool)
 | int (i:Int)
 | str (n:Nat)
 | tup (xs:List AV)
 | lst (xs:List AV)
 | ref (a:aH)
 | rng (lo hi:Int)
 | exc (c:aH)
noncomputable def AV.boolE{T:Sort _}(v:AV)(z:T)(f:Bool->T):T:=@AV.casesOn (λ_=>T) v z f (λ_=>z) (λ_=>z) (λ_=>z) (λ_=>z) (λ_=>z) (λ_ _=>z) λ_=>z
noncomputable def AV.intE{T:Sort _}(v:AV)(z:T)(f:Int->T):T:=@AV.casesOn (λ_=>T) v z (λ_=>z) f (λ_=>z) (λ_=>z) (λ_=>z) (λ_=>z) (λ_ _=>z) λ_=>z
noncomputable def AV.strE{T:Sort _}(v:AV)(z:T)(f:Nat->T):T:=@AV.casesOn (λ_=>T) v z (λ_=>z) (λ_=>z) f (λ_=>z) (λ_=>z) (λ_=>z) (λ_ _=>z) λ_=>z
noncomputable def AV.tupE{T:Sort _}(v:AV)(z:T)(f:List AV->T):T:=@AV.casesOn (λ_=>T) v z (λ_=>z) (λ_=>z) (λ_=>z) f (λ_=>z) (λ_=>z) (λ_ _=>z) λ_=>z
noncomputable def AV.lstE{T:Sort _}(v:AV)(z:T)(f:List AV->T):T:=@AV.casesOn (λ_=>T) v z (λ_=>z) (λ_=>z) (λ_=>z) (λ_=>z) f (λ_=>z) (λ_ _=>z) λ_=>z
noncomputable def AV.refE{T:Sort _}(v:AV)(z:T)(f:aH->T):T:=@AV.casesOn (λ_=>T) v z (λ_=>z) (λ_=>z) (λ_=>z) (λ_=>z) (λ_=>z) f (λ_ _=>z) λ_=>z
noncomputable def AV.rngE{T:Sort _}(v:AV)(z:T)(f:Int->Int->T):T:=@AV.casesOn (λ_=>T) v z (λ_=>z) (λ_=>z) (λ_=>z) (λ_=>z) (λ_=>z) (λ_=>z) f λ_=>z
noncomputable def AV.excE{T:Sort _}(v:AV)(z:T)(f:aH->T):T:=@AV.casesOn (λ_=>T) v z (λ_=>z) (λ_=>z) (λ_=>z) (λ_=>z) (λ_=>z) (λ_=>z) (λ_ _=>z) f
inductive AO where
 | list (xs:List AV)
 | frz (xs:List AV)
 | tdict (kvs:List (List (Bool×Int)×AV))
 | inst (c:aH) (d:aH)
 | idict (fs:List (Nat×AV))
noncomputable abbrev zn:=Bool×Int
noncomputable def z7(m:zn):AV:=.tup [.str m.1.toNat,.int m.2]
noncomputable def Ap(w:cV)(m:zn):Int:=nh (bD [gT w (zC m.1.toNat),pE m.2])
noncomputable abbrev zE(ms:List zn):AV:=.tup (ms.map z7)
noncomputable def Bs(w:cV)(ms:List zn):Int:=nh (bD (ms.map (Ap w)))
noncomputable abbrev su:=aH->Option AO
noncomputable def su.set(U:su)(a:aH)(o:AO):su:=λb=>if b=a then ae o else U b
noncomputable def zY(vs:List aD)(n:Nat):oz:={ cls:=.type "list",data:=.seq vs.toArray n }
noncomputable def Ax(lo hi:Int)(t u v:Tok):oz:={ cls:=.type "range",data:=.fields #[.int lo t,.int hi u,.int 1 v] }
noncomputable def ua(c:aH)(vs:Array aD):oz:={ cls:=.ref c,dict:=af,data:=.fields vs,slots:=#[] }
mutual
inductive sv(U:su)(h:cI):AV->aD->Prop
 | none:sv U h .none .none
 | bool (b:Bool):sv U h (.bool b) (.bool b)
 | int (i:Int) (t:Tok):sv U h (.int i) (.int i t)
 | str {n:Nat} (hn:n<kW) (t:Tok):sv U h (.str n) (.str (zC n) t)
 | tup {xs:List AV} {a:aH} {vs:List aD}:xs.length<=1000000->iT h a vs.toArray->sw U h xs vs->sv U h (.tup xs) (.ref a)
 | lst {xs:List AV} {a:aH}:U a=ae (.frz xs)->sv U h (.lst xs) (.ref a)
 | ref (a:aH):sv U h (.ref a) (.ref a)
 | rng {lo hi:Int} {a:aH} {t u v:Tok}:h.get? a=ae (Ax lo hi t u v)->sv U h (.rng lo hi) (.ref a)
 | exc {a c:aH} {vs:Array aD}:h.get? a=ae (ua c vs)->sv U h (.exc c) (.ref a)
inductive sw(U:su)(h:cI):List AV->List aD->Prop
 | nil:sw U h [] []
 | cons {x:AV} {xs:List AV} {v:aD} {vs:List aD}:sv U h x v->sw U h xs vs->sw U h (x::xs) (v::vs)
end
theorem sv.wC(r:sv U h (.int i) v):∃t,v = .int i t:=by cases r;exact⟨_,rfl⟩
theorem sv.wP(r:sv U h (.bool b) v):v = .bool b:=by cases r;rfl
theorem sv.wN(r:sv U h .none v):v = .none:=by cases r;rfl
theorem sv.wK(r:sv U h (.ref a) v):v = .ref a:=by cases r;rfl
theorem sv.wL(r:sv U h (.str n) v):∃t,v = .str (zC n) t/\n<kW:=by cases r with|str hn t=>exact zf t rfl hn
theorem sv.wI(r:sv U h (.tup xs) v):∃a vs,v = .ref a/\xs.length<=1000000/\iT h a (List.toArray vs)/\sw U h xs vs:=by cases r with|tup hl ht rs=>exact zq _ _ rfl hl ht rs
theorem sv.wS(r:sv U h (.lst xs) v):∃a,v = .ref a/\U a=ae (.frz xs):=by cases r with|lst e=>exact zf _ rfl e
theorem sw.wG(r:sw U h [] vs):vs=[]:=by cases r;rfl
theorem sw.wF(r:sw U h (x::xs) vs):∃u us,vs=u::us/\sv U h x u/\sw U h xs us:=by cases r with|cons a r=>exact zP _ _ rfl a r
def qM(o:oz):Prop:=(o.cls = .type "tuple"/\∃xs n,o.data = .seq xs n)\/(o.cls = .type "range"/\∃vs,o.data = .fields vs)\/∃c vs,o.cls = .ref c/\o.data = .fields vs
def zyE(o o':oz):Prop:=o'=o\/∃c vs Jw,o=ua c vs/\o'=ua c Jw
structure sA(U:su)(h:cI)(U':su)(h':cI):Prop where
 obj:∀b o,h.get? b=ae o->qM o->∃o',h'.get? b=ae o'/\zyE o o'
 frz:∀b xs,U b=ae (.frz xs)->U' b=ae (.frz xs)
theorem sA.mk'(k:∀b o,h.get? b=ae o->qM o->h'.get? b=ae o):sA U h U h':=⟨λb o e st=>(zf o (k b o e st) (.inl rfl)),λ_ _ e=>e⟩
theorem sA.ext(k:∀b o,h.get? b=ae o->h'.get? b=ae o):sA U h U h':=.mk' λb o e _=>k b o e
theorem sA.push(o):sA U h U (h.push o):=.ext λ_ _ e=>az _ e
theorem sA.tup(k:sA U h U' h')(ht:iT h a vs):iT h' a vs:=by
 refine jJ ht λo ho hc n hd=>?_;obtain⟨o',CM,e|⟨c,_,_,e,_⟩⟩:=k.obj _ _ ho (.inl (zs9 hc _ n hd))
 .subst e;exact qa _ CM hc n hd
 .subst e;cases hc
theorem sA.rng{U U':su}{h h':cI}(k:sA U h U' h'){a:aH}{lo hi:Int}{t u v:Tok}(ht:h.get? a=ae (Ax lo hi t u v)):h'.get? a=ae (Ax lo hi t u v):=by
 obtain⟨o',CM,e|⟨c,_,_,e,_⟩⟩:=k.obj _ _ ht (.inr (.inl (zsk rfl _ rfl)))
 .subst e;exact CM
 .cases e
theorem sv.mono(k:sA U h U' h')(r:sv U h x v):sv U' h' x v:=by
 refine sv.rec (motive_1:=λx v _=>sv U' h' x v) (motive_2:=λxs vs _=>sw U' h' xs vs) .none .bool .int (λhn t=>.str hn t) ?_ ?_ .ref ?_ ?_ .nil ?_ r
 .intro xs a vs hl ht _ r;exact .tup hl (k.tup ht) r
 .intro xs a e;exact .lst (k.frz _ _ e)
 .intro lo hi a t u v ho;exact .rng (k.rng ho)
 .intro a c vs ho;obtain⟨o',CM,e|⟨c',_,Jw,e,e'⟩⟩:=k.obj _ _ ho (.inr (.inr (zaE _ _ rfl rfl)))
  .subst e;exact .exc CM
  .cases e;subst e';exact .exc CM
 .intro x xs v vs _ _ a r;exact .cons a r
theorem sw.mono(k:sA U h U' h')(r:sw U h xs vs):sw U' h' xs vs:=by
 induction xs generalizing vs with
 | nil=>obtain rfl:=sw.wG r;exact .nil
 | cons x xs ih=>cases r with|cons a r=>exact .cons (a.mono k) (ih r)
theorem sw.length(r:sw U h xs vs):xs.length=vs.length:=by
 induction xs generalizing vs with
 | nil=>obtain rfl:=sw.wG r;rfl
 | cons x xs ih=>cases r with|cons a r=>rw[au,au,ih r]
theorem sw.append(q:sw U h xs vs)(r:sw U h ys us):sw U h (xs++ys) (vs++us):=by
 induction xs generalizing vs with
 | nil=>obtain rfl:=sw.wG q;exact r
 | cons x xs ih=>cases q with|cons a q=>exact .cons a (ih q)
theorem sw.get(r:sw U h xs vs):∀{i:Nat} {x:AV},xs[i]? = ae x->∃v,vs[i]? = ae v/\sv U h x v:=by
 induction xs generalizing vs with
 | nil=>intro i x e;exact nos e
 | cons y xs ih=>
  obtain⟨_,_,rfl,a,r⟩:=sw.wF r;intro i x e;cases i with
  | zero=>cases e;exact zf _ rfl a
  | succ i=>rw[dO] at e;exact ih r e
theorem sw.take(r:sw U h xs vs):∀n,sw U h (xs.take n) (vs.take n):=by
 induction xs generalizing vs with
 | nil=>intro n;obtain rfl:=sw.wG r;rw[rn,rn];exact .nil
 | cons y xs ih=>
  obtain⟨_,_,rfl,a,r⟩:=sw.wF r;intro n;cases n with
  | zero=>exact .nil
  | succ n=>exact .cons a (ih r n)
theorem sw.drop(r:sw U h xs vs):∀n,sw U h (xs.drop n) (vs.drop n):=by
 induction xs generalizing vs with
 | nil=>intro n;obtain rfl:=sw.wG r;rw[rp,rp];exact .nil
 | cons y xs ih=>
  obtain⟨_,_,rfl,a,r⟩:=sw.wF r;intro n;cases n with
  | zero=>exact .cons a r
  | succ n=>exact ih r n
structure Cx where
 prog:Hk
 w:cV
 h₀:cI
 os:rR
 mg:b7->Option aD
 mb:b7->Option aD
 fr:List aH
 top:Option fB
noncomputable def Cx.push(X:Cx)(L:fB):Cx:=⟨X.prog,X.w,X.h₀,X.os,X.mg,X.mb,L.locals::X.fr,ae L⟩
noncomputable abbrev Cx.M(X:Cx):rI:=bq X.prog X.w
structure Cx.Ok(X:Cx):Prop where
 g:X.h₀.Ns Hn X.mg
 b:X.h₀.Ns lB X.mb
 nolimit:X.h₀.NoLimit
inductive tS(w:cV)(U:su)(h:cI):List (List zn×AV)->List gZ->Prop
 | nil:tS w U h [] []
 | cons {k:List zn} {x:AV} {r:List (List zn×AV)} {e:gZ} {es:List gZ}:sv U h (zE k) e.key->sv U h x e.val->e.hash=Bs w k->tS w U h r es->tS w U h ((k,x)::r) (e::es)
theorem tS.mono(k:sA U h U' h')(r:tS w U h kvs es):tS w U' h' kvs es:=by
 induction r with
 | nil=>exact .nil
 | cons a b c _ ih=>exact .cons (a.mono k) (b.mono k) c ih
inductive SX(U:su)(h:cI):List (b7×aD)->List (Nat×AV)->Prop
 | nil:SX U h [] []
 | cons {k:Nat} {x:AV} {v:aD} {kvs:List (b7×aD)} {fs:List (Nat×AV)}:k<kW->sv U h x v->SX U h kvs fs->SX U h ((zC k,v)::kvs) ((k,x)::fs)
theorem SX.mono(k:sA U h U' h')(r:SX U h kvs fs):SX U' h' kvs fs:=by
 induction r with
 | nil=>exact .nil
 | cons hk a _ ih=>exact .cons hk (a.mono k) ih
noncomputable def tH(X:Cx)(U:su)(h:cI)(a:aH):AO->Prop
 | .list xs=>∃vs n,h.get? a=ae (zY vs n)/\sw U h xs vs/\xs.length<=1000000
 | .frz xs=>∃vs,h.IsList a vs.toArray/\sw U h xs vs/\xs.length<=1000000
 | .tdict kvs=>∃es n,h.get? a=ae { cls:=.type "dict",data:=.dict es n }/\tS X.w U h kvs es.toList/\(kvs.map (·.1)).Nodup/\kvs.length<=1000000/\(a==dS)=ai
 | .inst c d=>h.get? a=ae { cls:=.ref c,dict:=ae d,data:=.plain }
 | .idict fs=>∃kvs,h.DictOf (strKind X.prog X.w) a kvs/\SX U h kvs fs/\fs.length<=100/\(a==dS)=ai
theorem tH.mono(k:sA U h U' h')(e:∀o,h.get? a=ae o->h'.get? a=ae o)(r:tH X U h a o):tH X U' h' a o:=by
 cases o with
 | list xs=>exact zm r λvs n h1 h2 hl=>⟨vs,n,e _ h1,h2.mono k,hl⟩
 | frz xs=>exact zl r λvs J7 h2 hl=>za J7 λo h1 h3=>⟨vs,(zf o (e _ h1) h3),h2.mono k,hl⟩
 | tdict kvs=>exact zm r λes n h1 h2 h3=>⟨es,n,e _ h1,h2.mono k,h3⟩
 | inst c d=>exact e _ r
 | idict fs=>exact zl r λkvs Kn h2 h3=>jK Kn λo es ep h1 h4=>zz kvs (zaF o es ep (e _ h1) h4) (h2.mono k) h3
theorem tH.some(r:tH X U h a o):∃ob,h.get? a=ae ob/\¬qM ob:=by
 have no:∀{ob:oz} {t:String},ob.cls = .type t->t≠"tuple"->t≠"range"->¬qM ob:=by
  rintro ob t hc h1 h2 (⟨h,_⟩|⟨h,_⟩|⟨c,vs,h,_⟩)
  .rw[hc] at h;cases h;exact h1 rfl
  .rw[hc] at h;cases h;exact h2 rfl
  .rw[hc] at h;cases h
 cases o with
 | list xs=>refine z9 r λvs n h1 _=>?_;exact⟨_,h1,no (t:="list") rfl (by decide) (by decide)⟩
 | frz xs=>exact za r λvs JG _=>zl JG λo h1 hc _=>⟨_,h1,no hc (by decide) (by decide)⟩
 | tdict kvs=>refine z9 r λes n h1 _=>?_;exact⟨_,h1,no (t:="dict") rfl (by decide) (by decide)⟩
 | inst c d=>
  refine zf _ r ?_;rintro(⟨h,_⟩|⟨h,_⟩|⟨c,vs,_,h⟩)
  .cases h
  .cases h
  .cases h
 | idict fs=>refine za r λkvs L8 _=>jx L8 λo es ep h1 hx _=>?_;exact zf _ h1 (no (t:="dict") hx.1 (by decide) (by decide))
noncomputable def AO.ro(o:AO):Bool:=ch o.ctorIdx 1
def vq(h:cI)(b:aH):Prop:=∃o es n,h.get? b=ae o/\o.data = .dict es n
structure At(X:Cx)(U:su)(s:ay):Prop where
 keep:∀b o,X.h₀.get? b=ae o->s.heap.get? b=ae o
 rep:∀a o,U a=ae o->tH X U s.heap a o
 own:∀a o,U a=ae o->o.ro=ai->X.h₀.get? a=af
 gens:s.gens = #[]
 os:s.os=X.os
 ff:∀L∈X.fr,U L=af/\vq s.heap L
theorem At.lt(a:At X U s)(e:U b=ae o):b<s.heap.objs.size:=
 let ⟨_,h,_⟩:=(a.rep b o e).some;aO h
theorem At.none_of_size(a:At X U s)(e:s.heap.objs.size<=b):U b=af:=by
 cases h:U b with
 | none=>rfl
 | some o=>exact absurd (a.lt h) (Nat.not_lt.mpr e)
theorem At.stays(a:At X U s)(e:s.heap.get? b=ae o)(h:qM o):U b=af:=by
 cases hs:U b with
 | none=>rfl
 | some ao=>
  refine za ((a.rep b ao hs).some) λob h1 h2=>?_;rw[e] at h1;obtain rfl:=Hz h1;exact absurd h h2
structure Step(B:aH->Prop)(U:su)(s:ay)(U':su)(s':ay):Prop where
 keep:∀b o,s.heap.get? b=ae o->U b=af->¬B b->(∀es n,o.data≠.dict es n)->s'.heap.get? b=ae o
 keepD:∀b o,s.heap.get? b=ae o->U b=af->¬B b->∃sl,s'.heap.get? b=ae { o with slots:=sl }
 fresh:∀b,U' b≠af->U b=af->s.heap.objs.size<=b
 size:s.heap.objs.size<=s'.heap.objs.size
 frz:∀b xs,U b=ae (.frz xs)->U' b=ae (.frz xs)
theorem Step.mk'(keep:∀b o,s.heap.get? b=ae o->U b=af->¬B b->s'.heap.get? b=ae o)(fresh:∀b,U' b≠af->U b=af->s.heap.objs.size<=b)(size:s.heap.objs.size<=s'.heap.objs.size)
  (frz:∀b xs,U b=ae (.frz xs)->U' b=ae (.frz xs)):Step B U s U' s':=⟨λb o e h1 h2 _=>keep b o e h1 h2,λb o e h1 h2=>⟨o.slots,keep b o e h1 h2⟩,fresh,size,frz⟩
theorem Step.same(keep:∀b o,s.heap.get? b=ae o->¬B b->s'.heap.get? b=ae o)(size:s.heap.objs.size<=s'.heap.objs.size):Step B U s U s':=.mk' (λb o e _ h=>keep b o e h) (λ_ h1 h2=>absurd h2 h1) size λ_ _ e=>e
def E0:aH->Prop:=λ_=>False
theorem Step.refl(B)(U)(s):Step B U s U s:=.same (λ_ _ e _=>e) (ar _)
theorem Step.gone(x:Step B U s U' s')(e:s.heap.get? b=ae o)(h:U b=af):U' b=af:=by
 cases h':U' b with
 | none=>rfl
 | some _=>exact absurd (x.fresh b (by rw[h'];simp) h) (Nat.not_le.mpr (aO e))
theorem Step.trans(x:Step B U s U' s')(y:Step B U' s' DI s''):Step B U s DI s'' where
 keep:=λb o e h1 h2 h3=>y.keep b o (x.keep b o e h1 h2 h3) (x.gone e h1) h2 h3
 keepD:=λb o e h1 h2=>by
  obtain⟨sl,e'⟩:=x.keepD b o e h1 h2;obtain⟨sl',e''⟩:=y.keepD b _ e' (x.gone e h1) h2;exact⟨sl',e''⟩
 fresh:=λb h1 h2=>by
  cases h:U' b with
  | none=>exact ap x.size (y.fresh b h1 h)
  | some _=>exact x.fresh b (by rw[h];simp) h2
 size:=ap x.size y.size
 frz:=λb xs e=>y.frz b xs (x.frz b xs e)
theorem Step.weaken(x:Step B U s U' s')(h:∀b,B b->B' b):Step B' U s U' s':=
 ⟨λb o e h1 h2 h3=>x.keep b o e h1 (λq=>h2 (h b q)) h3,λb o e h1 h2=>x.keepD b o e h1 λq=>h2 (h b q),x.fresh,x.size,x.frz⟩
theorem Step.drop(x:Step B' U s U' s')(h:∀b,B' b->B b\/s.heap.objs.size<=b):Step B U s U' s':=by
 have no:∀b o,s.heap.get? b=ae o->¬B b->¬B' b:=λb o e h2 q=>(h b q).elim h2 λq'=>absurd (aO e) (Nat.not_lt.mpr q');exact⟨λb o e h1 h2 h3=>x.keep b o e h1 (no b o e h2) h3,λb o e h1 h2=>x.keepD b o e h1 (no b o e h2),x.fresh,x.size,x.frz⟩
theorem zpL(h:qM o)(es)(n):o.data≠.dict es n:=λe=>by
 rcases h with⟨_,_,_,h⟩|⟨_,_,h⟩|⟨_,_,_,h⟩<;>(rw[e] at h;cases h)
def sH(B:aH->Prop)(h:cI):Prop:=∀b o,B b->h.get? b=ae o->¬qM o
theorem sH.e0:sH E0 h:=λ_ _ h=>h.elim
theorem Step.keepV(x:Step B U s U' s')(a:At X U s)(n:sH B s.heap):sA U s.heap U' s'.heap:=
 ⟨λb o e h=>(zf o (x.keep b o e (a.stays e h) (λq=>n b o q e h) (zpL h)) (.inl rfl)),x.frz⟩
theorem Step.keepV0(x:Step E0 U s U' s')(a:At X U s):sA U s.heap U' s'.heap:=x.keepV a .e0
theorem su.wA(U:su)(a)(o):U.set a o a=ae o:=by simp[su.set]
theorem su.wB(U:su)(o)(h:b≠a):U.set a o b=U b:=by simp[su.set,h]
section
variable{X:Cx}{U U':su}{s s':ay}
theorem vq.kept(x:vq h b)(k:∀o,h.get? b=ae o->h'.get? b=ae o):vq h' b:=by
 exact jK x λo es n e d=>zaF o es n (k o e) d
theorem At.ffk(a:At X U s)(k:∀b o,s.heap.get? b=ae o->h'.get? b=ae o):∀L∈X.fr,U L=af/\vq h' L:=λL hL=>⟨(a.ff L hL).1,(a.ff L hL).2.kept λo e=>k L o e⟩
theorem At.toks(a:At X U s)(t):At X U { s with toks:=t }:=⟨a.keep,a.rep,a.own,a.gens,a.os,a.ff⟩
theorem Step.toks(U)(s)(t):Step B U s U { s with toks:=t }:=.same (λ_ _ e _=>e) (ar _)
theorem At.push(a:At X U s)(o)(t):At X U { s with heap:=s.heap.push o,toks:=t } where
 keep:=λb ob e=>az _ (a.keep b ob e)
 rep:=λb ao e=>(a.rep b ao e).mono (.push o) (λ_ h=>az _ h)
 own:=a.own
 gens:=a.gens
 os:=a.os
 ff:=a.ffk λ_ _ e=>az _ e
theorem Step.push(U)(s)(o)(t):Step B U s U { s with heap:=s.heap.push o,toks:=t }:=
 .same (λ_ _ e _=>az _ e) (by simp)
theorem zdI(h:∀xs,U b≠ae (.frz xs))(c:aH)(xs:List AV)(e:U c=ae (.frz xs)):U.set b ao c=ae (.frz xs):=by
 rw[su.wB _ _ (by rintro rfl;exact h _ e)];exact e
theorem sA.set(k:sA U h U h')(hb:∀xs,U b≠ae (.frz xs)):sA U h (U.set b ao) h':=⟨k.obj,zdI hb⟩
theorem zeC(h:U b=af)(xs):U b≠ae (.frz xs):=by rw[h];exact nofun
theorem zkS(h:U b=ae o)(ho:o.ro=ai)(xs):U b≠ae (.frz xs):=by
 rw[h];intro e;obtain rfl:=Hz e;exact nbo ho
theorem At.alloc(a:At X U s)(t:Nat)(hr:sA U s.heap (U.set s.heap.objs.size ao) (s.heap.push o)->tH X (U.set s.heap.objs.size ao) (s.heap.push o) s.heap.objs.size ao):At X (U.set s.heap.objs.size ao) { s with heap:=s.heap.push o,toks:=t }:=by
 have kv:sA U s.heap (U.set s.heap.objs.size ao) (s.heap.push o):=(sA.push o).set (zeC (a.none_of_size (ar _)));refine⟨λb ob e=>az _ (a.keep b ob e),λb bo e=>?_,λb bo e Ej=>?_,a.gens,a.os,λL hL=>?_⟩
 .by_cases hb:b=s.heap.objs.size
  .subst hb;rw[su.wA] at e;obtain rfl:=Hz e;exact hr kv
  .rw[su.wB _ _ hb] at e;exact(a.rep b bo e).mono kv (λ_ h=>az _ h)
 .by_cases hb:b=s.heap.objs.size
  .subst hb;cases h:X.h₀.get? s.heap.objs.size with|none=>rfl|some ob=>exact absurd (aO (a.keep _ _ h)) (cW _)
  .rw[su.wB _ _ hb] at e;exact a.own b bo e Ej
 .refine zd3 (a.ff L hL) λh1 o' es n h2 h3=>zom (by rw[su.wB _ _ (bl (aO h2))];exact h1) o' es n (az _ h2) h3
theorem Step.alloc(a:At X U s)(o)(ao)(t):Step B U s (U.set s.heap.objs.size ao) { s with heap:=s.heap.push o,toks:=t }:=
 .mk' (λ_ _ e _ _=>az _ e) (λb h1 h2=>by
  by_cases hb:b=s.heap.objs.size
  .rw[hb];exact ar _
  .rw[su.wB _ _ hb] at h1;exact absurd h2 h1) (by simp) (zdI (zeC (a.none_of_size (ar _))))
theorem At.store(a:At X U s)(t:Nat)(e:U b=ae De)(Ej:De.ro=ai)(hs:fG b s.heap h')(hr:sA U s.heap (U.set b ao) h'->tH X (U.set b ao) h' b ao) :
  At X (U.set b ao) { s with heap:=h',toks:=t }:=by
 have kv:sA U s.heap (U.set b ao) h':=(sA.mk' λc o ho st=>by
  have hc:c≠b:=by rintro rfl;rw[a.stays ho st] at e;exact absurd (d6 e) (aA _)
  rw[hs.2 c hc];exact ho).set (zkS e Ej)
 refine⟨λc o ho=>?_,λc co ec=>?_,λc co ec En=>?_,a.gens,a.os,λL hL=>?_⟩
 .have hc:c≠b:=by rintro rfl;rw[a.own _ _ e Ej] at ho;exact absurd (d6 ho) (aA _)
  exact(hs.2 c hc).trans (a.keep c o ho)
 .by_cases hc:c=b
  .subst hc;rw[su.wA] at ec;obtain rfl:=Hz ec;exact hr kv
  .rw[su.wB _ _ hc] at ec;exact(a.rep c co ec).mono kv λo ho=>(hs.2 c hc).trans ho
 .by_cases hc:c=b
  .subst hc;exact a.own _ _ e Ej
  .rw[su.wB _ _ hc] at ec;exact a.own c co ec En
 .obtain⟨h1,h2⟩:=a.ff L hL;have hc:L≠b:=by rintro rfl;rw[e] at h1;exact absurd h1 (aA _)
  exact⟨by rw[su.wB _ _ hc];exact h1,h2.kept λo ho=>(hs.2 L hc).trans ho⟩
theorem Step.store(t)(e:U b=ae De)(Ej:De.ro=ai)(hs:fG b s.heap h'):Step B U s (U.set b ao) { s with heap:=h',toks:=t }:=
 .mk' (λc o ho hc _=>(hs.2 c (by rintro rfl;rw[e] at hc;exact nso hc)).trans ho) (λc h1 h2=>by
  by_cases hc:c=b
  .subst hc;rw[e] at h2;exact absurd h2 (aA _)
  .rw[su.wB _ _ hc] at h1;exact absurd h2 h1) (bp hs.1.symm) (zdI (zkS e Ej))
theorem At.aside(a:At X U s)(t)(e:U b=af)(hb:X.h₀.get? b=af)(hn:∀o,s.heap.get? b=ae o->¬qM o)(hd:b∈X.fr->vq h' b)(hs:fG b s.heap h') :
  At X U { s with heap:=h',toks:=t }:=by
 have kv:sA U s.heap U h':=.mk' λc o ho st=>by
  have hc:c≠b:=by rintro rfl;exact hn _ ho st
  rw[hs.2 c hc];exact ho
 refine⟨λc o ho=>?_,λc co ec=>?_,a.own,a.gens,a.os,λL hL=>⟨(a.ff L hL).1,?_⟩⟩
 .have hc:c≠b:=by rintro rfl;rw[hb] at ho;exact absurd (d6 ho) (aA _)
  exact(hs.2 c hc).trans (a.keep c o ho)
 .have hc:c≠b:=by rintro rfl;rw[e] at ec;exact absurd (d6 ec) (aA _)
  exact(a.rep c co ec).mono kv λo ho=>(hs.2 c hc).trans ho
 .by_cases hc:L=b
  .subst hc;exact hd hL
  .exact(a.ff L hL).2.kept λo ho=>(hs.2 L hc).trans ho
theorem Step.aside(t)(hB:B b)(hs:fG b s.heap h'):Step B U s U { s with heap:=h',toks:=t }:=
 .same (λc o ho hc=>(hs.2 c (by rintro rfl;exact hc hB)).trans ho) (bp hs.1.symm)
end
abbrev Loc:=List (Option AV)
noncomputable def um(U:su)(h:cI):Option AV->Option aD->Prop
 | none,_=>True
 | some a,ae v=>sv U h a v
 | some _,af=>False
theorem um.mono(k:sA U h U' h')(r:um U h a v):um U' h' a v:=by
 cases a with
 | none=>trivial
 | some _=>cases v with|none=>exact r.elim|some _=>exact sv.mono k r
structure sF(env:fB):Prop where
 kind:env.scope.kind = .function
 glob:env.globals=Hn
 bi:env.builtins=lB
 apart:env.cells.Pairwise λx y=>x.2≠y.2
def zyF(nm:List (b7×Nat))(n:Nat):Prop:=(∀x i,nm.lookup x=ae i->i<n)/\∀x y i,nm.lookup x=ae i->nm.lookup y=ae i->x=y
noncomputable def jR(nm:List (b7×Nat)):Nat:=nm.foldl (λn p=>fF n (p.2+1)) 0
structure FR(X:Cx)(env:fB)(nm:List (b7×Nat))(l:Loc)(U:su)(h:cI):Prop where
 ns:∃m,h.Ns env.locals m/\∀x i,nm.lookup x=ae i->env.kindOf x=ae .local->um U h (l.getD i af) (m x)
 cell:∀x i,nm.lookup x=ae i->env.kindOf x=ae .cell->∃c v,env.cells.lookup x=ae c/\h.IsCell c v/\um U h (l.getD i af) v
 out:U env.locals=af/\X.h₀.get? env.locals=af
 nmok:zyF nm l.length
 len:l.length=jR nm
 outc:∀x c,(x,c)∈env.cells->U c=af/\X.h₀.get? c=af/\∃v,h.IsCell c v
def FB(env:fB):aH->Prop:=λb=>b=env.locals\/∃x,(x,b)∈env.cells
section
variable{X:Cx}{env:fB}{nm:List (b7×Nat)}{l:Loc}{U U':su}{s s':ay}
theorem zbf{es n}(hd:o.data = .dict es n):¬qM o:=by
 rintro(⟨_,_,_,h⟩|⟨_,_,h⟩|⟨_,_,_,h⟩)<;>(rw[hd] at h;cases h)
theorem zhV{v}(hd:o.data = .cell v):¬qM o:=by
 rintro(⟨_,_,_,h⟩|⟨_,_,h⟩|⟨_,_,_,h⟩)<;>(rw[hd] at h;cases h)
theorem jZ{h:cI}{m}(n:h.Ns a m):∀o,h.get? a=ae o->¬qM o:=by
 intro o e;refine jx n λo' es ep ho hd _=>?_;rw[e] at ho;obtain rfl:=Hz ho;exact zbf hd
theorem zai{h:cI}{v}(n:h.IsCell a v):∀o,h.get? a=ae o->¬qM o:=by
 intro o e;refine za n λo' ho hd=>?_;rw[e] at ho;obtain rfl:=Hz ho;exact zhV hd
theorem zi0{m}(n:h.Ns a m):vq h a:=by exact jx n λo es ep ho hd _=>zaF o es ep ho hd
theorem zor{v}(n:h.IsCell a v):¬vq h a:=by
 intro Da;refine jK Da λo es ep ho hd=>za n λo' CM DC=>?_;rw[ho] at CM;obtain rfl:=Hz CM;rw[hd] at DC;cases DC
theorem kN{h:cI}{m v}(n:h.Ns a m)(c:h.IsCell b v):a≠b:=by
 rintro rfl;refine jx n λo' es ep ho hd _=>za c λo CM DC=>?_;rw[ho] at CM;obtain rfl:=Hz CM;rw[hd] at DC;cases DC
theorem FR.noStay(F:FR X env nm l U s.heap):sH (FB env) s.heap:=by
 rintro b o (rfl|⟨x,hx⟩) e
 .exact za F.ns λm hn _=>jZ hn o e
 .exact kz (F.outc x b hx) λ_ _ v hc=>zai hc o e
theorem FR.stepB(F:FR X env nm l U s.heap)(a:At X U s)(st:Step B U s U' s')(hB:∀b,FB env b->¬B b)(hn:sH B s.heap):FR X env nm l U' s'.heap:=by
 have kv:=st.keepV a hn;refine za F.ns λm Kx hm=>jx Kx λo es ep ho hd r=>?_;obtain⟨sl,CM⟩:=st.keepD _ _ ho F.out.1 (hB _ (.inl rfl));have DO:∀x c o v,(x,c)∈env.cells->s.heap.get? c=ae o->o.data = .cell v->U c=af->s'.heap.get? c=ae o:=λx c o v hx e hd h=>st.keep c o e h (hB c (.inr ⟨x,hx⟩)) λes n q=>by rw[hd] at q;cases q
 refine⟨(zf m (kH _ es ep CM hd r) (λx i hx hk=>(hm x i hx hk).mono kv)),λx i hx hk=>?_,⟨st.gone ho F.out.1,F.out.2⟩,F.nmok,F.len,λx c hx=>?_⟩
 .exact zm (F.cell x i hx hk) λc v hc L9 hr=>za L9 λo ho hd=>zP c v hc (zf o (DO x c o v (mem_of_lookup hc) ho hd (F.outc x c (mem_of_lookup hc)).1) hd) (hr.mono kv)
 .exact kz (F.outc x c hx) λh1 h2 v Kw=>za Kw λo ho hd=>zag (st.gone ho h1) h2 v (zf o (DO x c o v hx ho hd h1) hd)
theorem FR.step(F:FR X env nm l U s.heap)(a:At X U s)(st:Step E0 U s U' s'):FR X env nm l U' s'.heap:=F.stepB a st (λ_ _ h=>h) .e0
theorem qO(l:Loc)(i j)(v)(hi:i<l.length):(l.set i v).getD j af=if j=i then v else l.getD j af:=by
 simp only[aF,List.getElem?_set]
 by_cases h:i=j
 .subst h;simp[hi]
 .have:¬j=i:=λe=>h e.symm;simp[h,this]
theorem zbx(EO:sF env)(F:FR X env nm l U s.heap)(a:At X U s)
  (hx:nm.lookup x=ae i)(hk:env.kindOf x=ae .local)(hv:sv U s.heap av v)
  (h:∀s',FR X env nm (l.set i (ae av)) U s'.heap->At X U s'->Step (λb=>b=env.locals) U s U s'->Q () s'):aI M A (rK env x v) Q E s:=by
 have N:=F.nmok;refine za F.ns λm hn hm=>wpAny_storeName_local hk hn (λh' CQ Cz=>?_) (by rw[EO.kind];rfl);have kv:sA U s.heap U h':=.mk' λb o e st=>(Cz.2 b (by rintro rfl;exact jZ hn o e st)).trans e;refine h _ ⟨(zf _ CQ (λy j hy Dw=>?_)),λy j hy Dw=>?_,F.out,by simpa using N,by simpa using F.len,λy c hy=>?_⟩ (a.aside _ F.out.1 F.out.2 (jZ hn) (λ_=>zi0 CQ) Cz) (Step.aside _ rfl Cz)
 .rw[qO _ _ _ _ (N.1 x i hx)]
  by_cases DY:y=x
  .subst DY;rw[hx] at hy;obtain rfl:=Hz hy;simp only[if_true];exact hv.mono kv
  .have:j≠i:=λe=>DY (N.2 y x i (e▸hy) hx);simp only[DY,this,if_false];exact(hm y j hy Dw).mono kv
 .refine zm (F.cell y j hy Dw) λc u hc Dq hr=>?_;have DY:y≠x:=by rintro rfl;rw[hk] at Dw;cases Dw
  have FW:j≠i:=λe=>DY (N.2 y x i (e▸hy) hx);rw[qO _ _ _ _ (N.1 x i hx),if_neg FW];exact zP c u hc (Dq.sameBut Cz (bO (kN hn Dq))) (hr.mono kv)
 .exact kz (F.outc y c hy) λh1 h2 u Dq=>zag h1 h2 u (Dq.sameBut Cz (bO (kN hn Dq)))
theorem ze0(EO:sF env)(F:FR X env nm l U s.heap)(a:At X U s)
  (hx:nm.lookup x=ae i)(hk:env.kindOf x=ae .local\/env.kindOf x=ae .cell)(hv:sv U s.heap av v)
  (h:∀s',FR X env nm (l.set i (ae av)) U s'.heap->At X U s'->Step (FB env) U s U s'->Q () s'):aI M A (rK env x v) Q E s:=by
 have N:=F.nmok
 rcases hk with hk|hk
 .exact zbx EO F a hx hk hv λs' F' a' st=>h s' F' a' (st.weaken λb hb=>.inl hb)
 .refine za F.ns λm hn hm=>zm (F.cell x i hx hk) λc u hc Dq hr=>wpAny_storeName_cell EO.kind hk hc Dq λh' Lx Cz=>?_;have kv:sA U s.heap U h':=.mk' λb o e st=>(Cz.2 b (by rintro rfl;exact zai Dq o e st)).trans e;have oc:=F.outc x c (mem_of_lookup hc);refine h { s with heap:=h' } ⟨(zf m (hn.sameBut Cz (kN hn Dq)) (λy j hy Dw=>?_)),λy j hy Dw=>?_,F.out,by simpa using N,by simpa using F.len,λy c' hy=>?_⟩ (a.aside (t:=s.toks) (h':=h') oc.1 oc.2.1 (zai Dq) (λhL=>((zor Dq) (a.ff _ hL).2).elim) Cz)
   (Step.aside (t:=s.toks) (h':=h') (Or.inr ⟨x,mem_of_lookup hc⟩) Cz)
  .have DY:y≠x:=by rintro rfl;rw[hk] at Dw;cases Dw
   have FW:j≠i:=λe=>DY (N.2 y x i (e▸hy) hx);rw[qO _ _ _ _ (N.1 x i hx),if_neg FW];exact(hm y j hy Dw).mono kv
  .rw[qO _ _ _ _ (N.1 x i hx)]
   by_cases DY:y=x
   .subst DY;rw[hx] at hy;obtain rfl:=Hz hy;simp only[if_true];exact zP c (ae v) hc Lx (hv.mono kv)
   .have FW:j≠i:=λe=>DY (N.2 y x i (e▸hy) hx);simp only[FW,if_false];refine zm (F.cell y j hy Dw) λc' u' hc' FE En=>zP c' u' hc' (FE.sameBut Cz ?_) (En.mono kv);rintro rfl;exact DY (name_of_addr EO.apart (mem_of_lookup hc') (mem_of_lookup hc))
  .refine kz (F.outc y c' hy) λh1 h2 u' FE=>?_
   by_cases hcc3:c'=c
   .subst hcc3;exact zag h1 h2 _ Lx
   .exact zag h1 h2 u' (FE.sameBut Cz hcc3)
theorem zcI(EO:sF env)(F:FR X env nm l U s.heap)
  (hx:nm.lookup x=ae i)(hk:env.kindOf x=ae .local\/env.kindOf x=ae .cell)(hl:l.getD i af=ae av)(h:∀v,sv U s.heap av v->Q v s):aI M A (loadName env x) Q E s:=by
 rcases hk with hk|hk
 .refine za F.ns λm hn hm=>?_;have hr:=hm x i hx hk;rw[hl] at hr;cases hv:m x with|none=>rw[hv] at hr;exact hr.elim|some v=>rw[hv] at hr;exact wpAny_loadName_local EO.kind hk hn hv (h v hr)
 .refine zm (F.cell x i hx hk) λc u hc Dq hr=>?_;rw[hl] at hr;cases u with|none=>exact hr.elim|some v=>exact wpAny_loadName_cell EO.kind hk hc Dq (h v hr)
end
def vh(n:Nat)(P:Prop):Prop:=match ly n 1000000 with|true=>P|false=>False
theorem zN(h:n<=1000000)(q:P):vh n P:=by unfold vh;rw[g7 h];exact q
theorem zab(h:vh n P):n<=1000000/\P:=by
 unfold vh at h;cases e:ly n 1000000 with
 | true=>rw[e] at h;exact⟨ba e,h⟩
 | false=>rw[e] at h;exact h.elim
def zw{V:Type}(o:Option V)(F:V->Prop):Prop:=match o with|some a=>F a|none=>False
theorem ze{V:Type}{o:Option V}{F:V->Prop}{a:V}(h:o=ae a)(q:F a):zw o F:=by rw[h];exact q
theorem zh{V:Type}{o:Option V}{F:V->Prop}(h:zw o F):∃a,o=ae a/\F a:=by
 cases o with
 | none=>exact h.elim
 | some a=>exact zf a rfl h
def uh(b:Bool)(P:Prop):Prop:=match b with|true=>P|false=>False
theorem jr(h:b=ag)(q:P):uh b P:=by rw[h];exact q
theorem qX(h:uh b P):b=ag/\P:=by
 cases b with
 | false=>exact h.elim
 | true=>exact⟨rfl,h⟩
noncomputable def AV.int?(v:AV):=v.intE cP ae
noncomputable def AV.bool?(v:AV):=v.boolE cP ae
noncomputable def AV.str?(v:AV):=v.strE cP ae
noncomputable def AV.tup?(v:AV):=v.tupE cP ae
theorem jv{x:AV}(h:x.int? = ae i):x = .int i:=by
 cases x with
 | int j=>exact congrArg AV.int (Hz h)
 | _=>exact nos h
theorem za2{x:AV}{i:Bool}(h:x.bool? = ae i):x = .bool i:=by
 cases x with
 | bool j=>exact congrArg AV.bool (Hz h)
 | _=>exact nos h
theorem zrz{x:AV}(h:x.str? = ae i):x = .str i:=by
 cases x with
 | str j=>exact congrArg AV.str (Hz h)
 | _=>exact nos h
theorem zrK{x:AV}(h:x.tup? = ae i):x = .tup i:=by
 cases x with
 | tup j=>exact congrArg AV.tup (Hz h)
 | _=>exact nos h
def cB(c:Bool)(P R:Prop):Prop:=match c with|true=>P|false=>R
theorem zaS(h1:c=ag->P)(h2:c=ai->R):cB c P R:=by
 cases c with
 | true=>exact h1 rfl
 | false=>exact h2 rfl
abbrev zt:=AV->su->Prop
abbrev XP:=aH->su->Prop
structure Dp where
 n:Nat
 hd:Bool
abbrev AE:=Dp->Loc->zt->XP->su->Prop
structure uL(X:Cx)(envs:List fB):Prop where
 is:∀e∈envs,e.scope.kind≠.module/\∃L,e.frame=ae L/\L∈X.fr
 out:∀L∈X.fr,X.h₀.get? L=af
structure sK(X:Cx)(d:Dp)(A:bn):Prop where
 depth:A.depth<=301+d.n
 units:A.units<=20+8*d.n
 handled:d.hd=ai->A.handled=af
 small:d.n<=600
 frames:∃envs,A.frames=ae envs/\uL X envs/\∀e,X.top=ae e->∃CV,envs=e::CV
theorem sK.room(L:sK X d A):A.units+3000<f6:=by
 have h1:=L.units;have h2:=L.small;show A.units+3000<9900;exact zb 0x9ab24900bb89029400012c482030400022c000292a0006 rfl h1 h2
noncomputable def sC(U:su):su:=λa=>(U a).bind λo=>bif o.ro then af else ae o
theorem zH(h:sC U a=ae o):U a=ae o/\o.ro=ai:=by
 refine za (Option.bind_eq_some_iff.mp h) λo' h1 h2=>?_;cases r:o'.ro with
 | true=>rw[r] at h2;exact nos h2
 | false=>rw[r] at h2;obtain rfl:=Hz h2;exact⟨h1,r⟩
theorem zj8(h:U a=ae o)(ho:o.ro=ai):sC U a=ae o:=by
 unfold sC;rw[h];show (bif o.ro then af else ae o)=_;rw[ho];rfl
theorem jU(h:U a=af):sC U a=af:=by
 unfold sC;rw[h];rfl
theorem jk(ho:o.ro=ai):sC (U.set a o)=(sC U).set a o:=by
 funext b
 by_cases hb:b=a
 .subst hb;rw[su.wA,zj8 (su.wA ..) ho]
 .rw[su.wB _ _ hb];unfold sC;rw[su.wB _ _ hb]
theorem zgR(h:U a=af):sC (U.set a (.frz xs))=sC U:=by
 funext b
 by_cases hb:b=a
 .subst hb;unfold sC;rw[su.wA,h];rfl
 .unfold sC;rw[su.wB _ _ hb]
def ww(U:su)(s:ay)(x:aH):Prop:=∀o,s.heap.get? x=ae o->U x≠af
theorem ww.back(st:Step B U s U' s')(hB:¬B x)(h:ww U' s' x):ww U s x:=λo e q=>by
 obtain⟨sl,e'⟩:=st.keepD x o e q hB;exact h _ e' (st.gone e q)
structure tr(X:Cx)(U:su)(g:cI)(x c:aH)(h:cI):Prop where
 keepS:∀b o,g.get? b=ae o->b≠x->∃sl,h.get? b=ae { o with slots:=sl }
 keepX:∀b o,g.get? b=ae o->b≠x->((∀es n,o.data≠.dict es n)\/U b≠af\/X.h₀.get? b≠af)->h.get? b=ae o
 exg:∃vs,g.get? x=ae (ua c vs)
 size:g.objs.size<=h.objs.size
 exh:∃vs,h.get? x=ae (ua c vs)/\(vs[1]? = ae .none\/∃T tc ts,vs[1]? = ae (.ref T)/\T≠x/\g.get? T=af/\h.get? T=ae { cls:=tc,dict:=af,data:=.fields ts,slots:=#[] }/\ts[3]? = ae .none)
def sB(X:Cx)(U:su)(s:ay)(Q:zt):aD->ay->Prop:=
 λv s'=>∃av U',sv U' s'.heap av v/\At X U' s'/\Step E0 U s U' s'/\Q av (sC U')
def sE(X:Cx)(U:su)(s:ay)(Z:XP):aD->ay->Prop:=
 λe s'=>∃c U' x g,e = .ref x/\ww U s x/\At X U' { s' with heap:=g }/\Step E0 U s U' { s' with heap:=g }/\tr X U' g x c s'.heap/\Z c (sC U')
def sW(X:Cx)(U:su)(s:ay)(Q:Bool->su->Prop):Bool->ay->Prop:=
 λb s'=>∃U',At X U' s'/\Step E0 U s U' s'/\Q b (sC U')
def Bx(X:Cx)(U:su)(s:ay)(Q:List AV->su->Prop):List aD->ay->Prop:=
 λvs s'=>∃E9 U',sw U' s'.heap E9 vs/\At X U' s'/\Step E0 U s U' s'/\Q E9 (sC U')
section
variable{X:Cx}{A:bn}{U U':su}{s s':ay}{Z:XP}
theorem sE.back(st:Step E0 U s U' s')(h:sE X U' s' Z e s''):sE X U s Z e s'':=
 by exact jX h λc DI x g h1 h2 a Cs f z=>qt c DI x g h1 (h2.back st (λh=>h)) a (st.trans Cs) f z
theorem sB.back(st:Step E0 U s U' s')(h:sB X U' s' Q v s''):sB X U s Q v s'':=
 by exact zj h λav DI r a Cs q=>zq av DI r a (st.trans Cs) q
theorem sW.back(st:Step E0 U s U' s')(h:sW X U' s' Q v s''):sW X U s Q v s'':=
 by exact zl h λDI a Cs q=>zz DI a (st.trans Cs) q
theorem zak{V:Type}{t:lu aD}{f:aD->lu V}{Q1:zt}{R:aD->V->ay->Prop}(h:aI X.M A t (sB X U s Q1) (sE X U s Z) s)
  (k:∀av v σ1 s1,sv σ1 s1.heap av v->At X σ1 s1->Step E0 U s σ1 s1->Q1 av (sC σ1)->aI X.M A (f v) (R v) (sE X U s Z) s1) :
  aI X.M A t (λv s1=>aI X.M A (f v) (R v) (sE X U s Z) s1) (sE X U s Z) s:=
 Hb h (λv s1 Dl=>zj Dl λav σ1 r a st q=>k av v σ1 s1 r a st q) λ_ _ e=>e
theorem jN(st:Step E0 U s U' s')(h:aI X.M A t (sB X U' s' Q) (sE X U' s' Z) s'):aI X.M A t (sB X U s Q) (sE X U s Z) s':=
 Hb h (λ_ _ h=>h.back st) λ_ _ h=>h.back st
theorem zfh(st:Step E0 U s U' s')(h:aI X.M A t (sW X U' s' Q) (sE X U' s' Z) s'):aI X.M A t (sW X U s Q) (sE X U s Z) s':=
 Hb h (λ_ _ h=>h.back st) λ_ _ h=>h.back st
theorem zb0{Q:zt}{av:AV}{v:aD}(a:At X U s)(r:sv U s.heap av v)(q:Q av (sC U)):sB X U s Q v s:=(zq av U r a (.refl ..) q)
theorem zaj(a:At X U s)(r:sv U s.heap av v)(q:Q av (sC U)):sB X U s Q v { s with toks:=t }:=(zq av U r (a.toks t) (.toks ..) q)
end
def zi(X:Cx)(env:fB)(nm:List (b7×Nat))(e:Expr)(m:AE):Prop:=
 ∀d A l U s Q Z,sK X d A->At X U s->FR X env nm l U s.heap->m d l Q Z (sC U)->aI X.M A (fm e env) (sB X U s Q) (sE X U s Z) s
def vp(Q:Bool->su->Prop):zt:=λa U=>zw a.bool? λb=>Q b U
def qR(X:Cx)(env:fB)(nm:List (b7×Nat))(e:Expr)(m:AE):Prop:=
 ∀d A l U s Q Z,sK X d A->At X U s->FR X env nm l U s.heap->m d l (vp Q) Z (sC U)->aI X.M A (isTrue e env (fm e env)) (sW X U s Q) (sE X U s Z) s
namespace A
def BU(Q:zt)(U:su)(a:AV):Prop:=Q a U
def loc(i:Nat):AE:=λ_ l Q _ U=>zw (l.getD i af) (BU Q U)
def k(a:AV):AE:=λ_ _ Q _ U=>Q a U
end A
section
variable{X:Cx}{env:fB}{nm:List (b7×Nat)}
theorem zmV{x:b7}{pos:pJ}{i:Nat}(EO:sF env)(hx:nm.lookup x=ae i)(hk:env.kindOf x=ae .local\/env.kindOf x=ae .cell)(hd:(x==("__debug__" : b7))=ai) :
  zi X env nm (.Name x pos) (A.loc i):=λd A l U s Q Z L a F q=>by
 exact za (zh q) λav hl q=>lC (zcI EO F hx hk hl λv r=>zb0 a r q) hd
theorem zmR{k pos}:zi X env nm (.Constant (.int i) k pos) (A.k (.int i)):=λd A l U s Q Z L a F q=>
 wpAny_Constant_int (zaj a (.int _ _) q)
theorem zm4(hn:n<kW)(hx:zC n=x){k pos}:zi X env nm (.Constant (.str x) k pos) (A.k (.str n)):=λd A l U s Q Z L a F q=>by
 subst hx;exact λ_ _ _=>zaj a (.str hn _) q
theorem zjZ{k pos}:zi X env nm (.Constant .none k pos) (A.k .none):=λd A l U s Q Z L a F q=>Ha (zb0 a .none q)
theorem zjT{k pos}:zi X env nm (.Constant (.bool b) k pos) (A.k (.bool b)):=λd A l U s Q Z L a F q=>Ha (zb0 a (.bool b) q)
theorem zmE{e:Expr}{m:AE}(h:zi X env nm e m)(he:∀DR,isTrue e env DR=(do let v <-DR;pF e.pos;holding [v] (truthy v))):qR X env nm e m:=λd A l U s Q Z L a F q=>by
 rw[he];refine G9 (zak (h d A l U s (vp Q) Z L a F q) λav v σ1 s1 r a1 st CE=>?_);refine za (zh CE) λb e q1=>?_;have e:=za2 e;subst e;obtain rfl:=sv.wP r;exact G9 (Hj (Hc (cx (zz σ1 a1 st q1))))
end
inductive Fl where
 | next
 | ret (v:AV)
abbrev je:=Fl->Loc->su->Prop
abbrev uN:=aH->Loc->su->Prop
abbrev AS:=Dp->Loc->je->uN->su->Prop
def Ca(U:su)(h:cI)(l:Fl)(f:Flow):Prop:=@Fl.casesOn (λ_=>Prop) l (@rV (λ_=>Prop) f True False False λ_=>False) λa=>@rV (λ_=>Prop) f False False False (sv U h a)
def tF(X:Cx)(env:fB)(nm:List (b7×Nat))(U:su)(s:ay)(Q:je):Flow->ay->Prop:=
 λf s'=>∃fl l' U',Ca U' s'.heap fl f/\At X U' s'/\FR X env nm l' U' s'.heap/\Step (FB env) U s U' s'/\Q fl l' (sC U')
def t6(X:Cx)(env:fB)(nm:List (b7×Nat))(U:su)(s:ay)(Z:uN):aD->ay->Prop:=
 λe s'=>∃c l' U' x g,e = .ref x/\(ww U s x/\¬FB env x)/\At X U' { s' with heap:=g }/\FR X env nm l' U' g/\Step (FB env) U s U' { s' with heap:=g }/\tr X U' g x c s'.heap/\Z c l' (sC U')
def jz(X:Cx)(env:fB)(nm:List (b7×Nat))(st:iR)(m:AS):Prop:=
 ∀d A l U s Q Z,sK X d A->At X U s->FR X env nm l U s.heap->m d l Q Z (sC U)->aI X.M A (exec st env) (tF X env nm U s Q) (t6 X env nm U s Z) s
def j9(X:Cx)(env:fB)(nm:List (b7×Nat))(LX:List iR)(m:AS):Prop:=
 ∀d A l U s Q Z,sK X d A->At X U s->FR X env nm l U s.heap->m d l Q Z (sC U)->aI X.M A (execs LX env) (tF X env nm U s Q) (t6 X env nm U s Z) s
namespace A
def nil:AS:=λd l Q Z U=>Q .next l U
def zzm(b:AS)(d:Dp)(Q:je)(Z:uN):je:=λf l' U'=>match f with|.next=>b d l' Q Z U'|.ret v=>Q (.ret v) l' U'
def kZ(Z:uN)(l:Loc):XP:=λc U'=>Z c l U'
def zzn(i:Nat)(l:Loc)(Q:je):zt:=λa U'=>Q .next (l.set i (ae a)) U'
def zzk(l:Loc)(Q:je):zt:=λa U'=>Q (.ret a) l U'
def kIf(a b:AS)(d:Dp)(l:Loc)(Q:je)(Z:uN)(c:Bool)(U':su):Prop:=cB c (a d l Q Z U') (b d l Q Z U')
def noX:uN:=λ_ _ _=>False
def wM(I:su->Prop)(K:Loc->su->Prop)(S:je):je:=λf Mi U'=>match f with|.next=>I U'/\K Mi U'|.ret v=>S (.ret v) Mi U'
def cons(a b:AS):AS:=λd l Q Z U=>a d l (zzm b d Q Z) Z U
def set(i:Nat)(x:AE):AS:=λd l Q Z U=>x d l (zzn i l Q) (kZ Z l) U
def ret(x:AE):AS:=λd l Q Z U=>x d l (zzk l Q) (kZ Z l) U
def vI:AS:=λd l Q Z U=>Q (.ret .none) l U
def if_(t:AE)(a b:AS):AS:=λd l Q Z U=>t d l (vp (kIf a b d l Q Z)) (kZ Z l) U
def w3(t:AE)(a:AS):AS:=λd l Q Z U=>∃(J:Nat->Loc->su->Prop) (n:Nat),J n l U/\∀n l U,J n l U->
 t d l (vp λc U'=>cB c (a d l (λf l' DI=>match f with|.next=>∃m,m<n/\J m l' DI|.ret v=>Q (.ret v) l' DI) (λ_ _ _=>False) U') (Q .next l U')) (λ_ _=>False) U
end A
section
variable{X:Cx}{env:fB}{nm:List (b7×Nat)}{U U':su}{s s':ay}
theorem FB.wQ(b)(h:E0 b):FB env b:=h.elim
theorem tF.back(st:Step (FB env) U s U' s')(h:tF X env nm U' s' Q f s''):tF X env nm U s Q f s'':=
 by exact jB h λfl l' DI r a F Cs q=>zK fl l' DI r a F (st.trans Cs) q
theorem t6.back(st:Step (FB env) U s U' s')(h:t6 X env nm U' s' Z e s''):t6 X env nm U s Z e s'':=
 by exact kC h λc l' DI x g h1 h2 a F Cs f q=>qu c l' DI x g h1 ⟨h2.1.back st h2.2,h2.2⟩ a F (st.trans Cs) f q
theorem FB.w7(F:FR X env nm l U g)(h:∃vs,g.get? x=ae (ua c vs)):¬FB env x:=by
 obtain⟨vs,h1⟩:=h;rintro(rfl|⟨y,hy⟩)
 .refine za F.ns λm Og _=>jx Og λo' es ep h3 h4 _=>?_;rw[h1] at h3;obtain rfl:=Hz h3;cases h4
 .refine zca (F.outc y x hy) λ_ _ v o' h3 h4=>?_;rw[h1] at h3;obtain rfl:=Hz h3;cases h4
theorem sE.toS(a0:At X U s)(F:FR X env nm l U s.heap)(h:sE X U s (λc U'=>Z c l U') e s''):t6 X env nm U s Z e s'':=
 by exact jX h λc DI x g h1 h2 a Cs f q=>qu c l DI x g h1 ⟨h2,FB.w7 (F.step a0 Cs) f.exg⟩ a (F.step a0 Cs) (Cs.weaken FB.wQ) f q
theorem inS{V:Type}{f:aD->lu V}{R:V->ay->Prop}{E:aD->ay->Prop}(a0:At X U s)(F:FR X env nm l U s.heap)
  (h:aI X.M A t (sB X U s Q1) (sE X U s λc U'=>Z c l U') s)(hE:∀e s',t6 X env nm U s Z e s'->E e s')
  (k:∀av v σ1 s1,sv σ1 s1.heap av v->At X σ1 s1->FR X env nm l σ1 s1.heap->Step (FB env) U s σ1 s1->Step E0 U s σ1 s1->Q1 av (sC σ1)->aI X.M A (f v) R E s1) :
  aI X.M A t (λv s1=>aI X.M A (f v) R E s1) E s:=
 Hb h (λv s1 Dl=>zj Dl λav σ1 r a st q=>k av v σ1 s1 r a (F.step a0 st) (st.weaken FB.wQ) st q) λe s' x=>hE e s' (x.toS a0 F)
theorem zm0:j9 X env nm [] A.nil:=λd A l U s Q Z L a F q=>gJ (zK .next l U trivial a F (.refl ..) q)
theorem zjV{st:iR}{LX:List iR}{m ms:AS}(h:jz X env nm st m)(hs:j9 X env nm LX ms):j9 X env nm (st::LX) (A.cons m ms):=λd A l U s Q Z L a F q=>by
 refine wpAny_execs_cons (Hb (h d A l U s _ Z L a F q) (λf s1 CE=>?_) λ_ _ e=>e);refine jB CE λfl l1 σ1 r a1 F1 st1 q1=>?_;cases f with
 | next=>
  cases fl with
  | next=>exact Hb (hs d A l1 σ1 s1 Q Z L a1 F1 q1) (λ_ _ x=>x.back st1) λ_ _ x=>x.back st1
  | ret v=>exact r.elim
 | ret v=>
  cases fl with
  | next=>exact r.elim
  | ret av=>exact⟨.ret av,l1,σ1,r,a1,F1,st1,q1⟩
 | brk=>cases fl<;>exact r.elim
 | cont=>cases fl<;>exact r.elim
theorem zm3(h:zi X env nm e m):jz X env nm (.Return (ae e) pos) (A.ret m):=λd A l U s Q Z L a F q=>
 wpAny_Return_some (Hb (h d A l U s _ _ L a F q) (λv s1 Dl=>zj Dl λav σ1 r a1 st q1=>(zK (.ret av) l σ1 r a1 (F.step a st) (st.weaken FB.wQ) q1)) λ_ _ x=>x.toS a F)
theorem zj0:jz X env nm (.Return af pos) A.vI:=λd A l U s Q Z L a F q=>
 wpAny_Return_none (zK (.ret .none) l U sv.none a F (.refl ..) q)
theorem zfH(EO:sF env)(h:zi X env nm value m)(hx:nm.lookup x=ae i)(hk:env.kindOf x=ae .local\/env.kindOf x=ae .cell)
  (hs:gk value (ae (.Name x pos')) pos.line env=b9 ai):jz X env nm (.Assign [.Name x pos'] value pos) (A.set i m):=λd A l U s Q Z L a F q=>
 wpAny_Assign_Name (inS a F (h d A l U s _ _ L a F q) (λ_ _ e=>e) λav v σ1 s1 r a1 F1 st _ q1=>
  ze0 EO F1 a1 hx hk r λs2 F2 a2 Cy=>(zK .next _ σ1 trivial a2 F2 (st.trans Cy) q1)) hs
theorem zpJ(ht:qR X env nm test t)(ha:j9 X env nm body a)(hb:j9 X env nm DD b) :
  jz X env nm (.If test body DD pos) (A.if_ t a b):=λd A l U s Q Z L a0 F q=>by
 refine wpAny_If (Hb (ht d A l U s _ _ L a0 F q) (λc s1 CE=>?_) λ_ _ x=>x.toS a0 F);refine zl CE λσ1 a1 st q1=>?_;have F1:=F.step a0 st;have Cs:=st.weaken (B':=FB env) FB.wQ;cases c with
 | true=>exact Hb (ha d A l σ1 s1 Q Z L a1 F1 q1) (λ_ _ x=>x.back Cs) λ_ _ x=>x.back Cs
 | false=>exact Hb (hb d A l σ1 s1 Q Z L a1 F1 q1) (λ_ _ x=>x.back Cs) λ_ _ x=>x.back Cs
theorem noX{U:su}{s:ay}{e:aD}{s':ay}{P:Prop}(h:sE X U s (λ_ _=>False) e s'):P:=by exact jX h λ_ _ _ _ _ _ _ _ _ z=>z.elim
theorem zrg{U:su}{s:ay}{e:aD}{s':ay}{P:Prop}(h:t6 X env nm U s (λ_ _ _=>False) e s'):P:=by exact kC h λ_ _ _ _ _ _ _ _ _ _ _ z=>z.elim
theorem zil(ht:qR X env nm test t)(hb:j9 X env nm body m) :
  jz X env nm (.While test body [] pos) (A.w3 t m):=λd A l U s Q Z L a0 F Dl=>z9 Dl λJ n hJ KC=>by
 refine wpAny_While (codeAny_whileLoop (λn s1=>∃l1 σ1,At X σ1 s1/\FR X env nm l1 σ1 s1.heap/\Step (FB env) U s σ1 s1/\J n l1 (sC σ1)) ?_ n (zq l U a0 F (.refl ..) hJ));intro n s1 Da;refine zj Da λl1 σ1 a1 F1 st1 RB=>Hb (ht d A l1 σ1 s1 _ _ L a1 F1 (KC n l1 (sC σ1) RB)) (λc s2 CE=>?_) λ_ _ x=>noX x;refine zl CE λσ2 a2 Cy q2=>?_;have F2:=F1.step a1 Cy;have DW:=st1.trans (Cy.weaken (B':=FB env) FB.wQ);cases c with
 | true=>
  refine Hb (hb d A l1 σ2 s2 _ _ L a2 F2 q2) (λf s3 CE=>?_) λ_ _ x=>zrg x;refine jB CE λfl l3 σ3 r a3 F3 CI q3=>?_;cases f with
  | next=>
   cases fl with
   | next=>exact za q3 λk hk QL=>ziV k hk l3 σ3 a3 F3 (DW.trans CI) QL
   | ret v=>exact r.elim
  | ret v=>
   cases fl with
   | next=>exact r.elim
   | ret av=>exact zK (.ret av) l3 σ3 r a3 F3 (DW.trans CI) q3
  | brk=>cases fl<;>exact r.elim
  | cont=>cases fl<;>exact r.elim
 | false=>
  exact gJ (zK .next l1 σ2 trivial a2 F2 DW q2)
end
inductive uF where
 | one (i:Nat)
 | many (is:List Nat)
noncomputable def ym:List Nat->List AV->Loc->Loc
 | i::is,x::xs,l=>ym is xs (l.set i (ae x))
 | _,_,l=>l
noncomputable def j2(t:uF)(x:AV)(l:Loc):Option Loc:=@uF.casesOn (λ_=>Option Loc) t (λi=>ae (l.set i (ae x))) λis=>x.tupE af λxs=>if xs.length=is.length then ae (ym is xs l) else af
def xn(B:aH->Prop)(env:fB)(x:b7):Prop:=(env.kindOf x=ae .local/\∀b,b=env.locals->B b)\/(env.kindOf x=ae .cell/\∀b,FB env b->B b)
theorem zfM(EO:sF env)(F:FR X env nm l U s.heap)(a:At X U s)
  (hx:nm.lookup x=ae i)(hk:xn B env x)(hv:sv U s.heap av v)
  (h:∀s',FR X env nm (l.set i (ae av)) U s'.heap->At X U s'->Step B U s U s'->Q () s'):aI M A (rK env x v) Q E s:=by
 rcases hk with⟨hk,hB⟩|⟨hk,hB⟩
 .exact zbx EO F a hx hk hv λs' F' a' st=>h s' F' a' (st.weaken hB)
 .exact ze0 EO F a hx (.inr hk) hv λs' F' a' st=>h s' F' a' (st.weaken hB)
theorem ztV(hk:env.kindOf x=ae .local\/env.kindOf x=ae .cell):xn (FB env) env x:=hk.imp (λh=>⟨h,λ_ h=>.inl h⟩) λh=>⟨h,λ_ h=>h⟩
def wj(B:aH->Prop)(X:Cx)(env:fB)(nm:List (b7×Nat))(target:Expr)(t:uF):Prop:=
 ∀d A l l' U s x v (Q:Unit->ay->Prop) E,sK X d A->d.hd=ai->At X U s->FR X env nm l U s.heap->sv U s.heap x v->j2 t x l=ae l'->
  (∀s',FR X env nm l' U s'.heap->At X U s'->Step B U s U s'->Q () s')->aI X.M A (rW target env v) Q E s
theorem zeW(EO:sF env)(hx:nm.lookup x=ae i)(hk:xn B env x) :
  wj B X env nm (.Name x pos) (.one i):=λd A l l' U s y v Q E L hd a F r hb h=>by
 cases hb;exact iz (zfM EO F a hx hk r h)
structure tX(X:Cx)(A:bn)(target:Expr)(it:aD)(I:su->Prop)(xs:List AV)(W:aH->Prop)(St:Nat->su->cI->Prop):Prop where
 stable:∀i U h U' h',St i U h->sA U h U' h'->(∀b o,W b->h.get? b=ae o->h'.get? b=ae o)->St i U' h'
 there:∀i U h b,St i U h->W b->∃o,h.get? b=ae o/\¬qM o/\(∀es n,o.data≠.dict es n)/\(∀v,o.data≠.cell v)
 item:∀i x U s (Q:aD->ay->Prop) (Qn:Option aD->ay->Prop) E,(∀v s1,aI X.M A (gK target it v) (λ_ s'=>Q v s') E s1->Qn (ae v) s1)->
  xs[i]? = ae x->At X U s->I (sC U)->St i U s.heap->(∀b,W b->U b=af/\X.h₀.get? b=af)->
  (∀v s',sv U s'.heap x v->At X U s'->Step W U s U s'->St (i+1) U s'.heap->Q v s')->aI X.M A (oF it) Qn E s
 done:∀U s (Q:Option aD->ay->Prop) E,At X U s->I (sC U)->St xs.length U s.heap->(∀b,W b->U b=af/\X.h₀.get? b=af)->
  (∀s',At X U s'->Step W U s U s'->Q af s')->aI X.M A (oF it) Q E s
 self:∀i U s (Q:aD->ay->Prop) E,St i U s.heap->Q it s->aI X.M A (rX it) Q E s
noncomputable def vm(I:su->Prop)(t:uF)(body:AS)(d:Dp)(Q:je):List AV->Loc->su->Prop
 | [],l,U=>Q .next l U
 | x::xs,l,U=>∃l',j2 t x l=ae l'/\body d l' (A.wM I (vm I t body d Q xs) Q) A.noX U
section
variable{X:Cx}{env:fB}{nm:List (b7×Nat)}{A:bn}{U:su}{s:ay}
theorem zn5{d:Dp}{target:Expr}{t:uF}{body:List iR}{m:AS}{it:aD}{I:su->Prop}{xs:List AV}{W:aH->Prop}{St:Nat->su->cI->Prop}{l:Loc}{Q:je}{R:pM->ay->Prop}
  (L:sK X d A)(hd:d.hd=ai)(IT:tX X A target it I xs W St)(ht:wj (FB env) X env nm target t)(hb:j9 X env nm body m)(hW:∀b,W b->U b=af/\X.h₀.get? b=af)
  (a0:At X U s)(F:FR X env nm l U s.heap)(hI:I (sC U))(CD:St 0 U s.heap)(h:vm I t m d Q xs l (sC U))
  (hR:∀f s',(∃fl l' U',Ca U' s'.heap fl f/\At X U' s'/\FR X env nm l' U' s'.heap/\Step (λb=>FB env b\/W b) U s U' s'/\Q fl l' (sC U'))->R (.ok f) s') :
  Hl X.M A (.forLoop target it body [] env) R s:=by
 refine codeAny_forLoop_any (λk s1=>∃i l1 σ1,k=xs.length+1-i/\i<=xs.length/\At X σ1 s1/\FR X env nm l1 σ1 s1.heap/\Step (λb=>FB env b\/W b) U s σ1 s1/\I (sC σ1)/\St i σ1 s1.heap/\
  (∀b,W b->σ1 b=af/\X.h₀.get? b=af)/\vm I t m d Q (xs.drop i) l1 (sC σ1)) ?_ (xs.length+1) (zee 0 l U rfl (aE _) a0 F (.refl ..) hI CD hW h)
 intro k s1 CY;refine zd6 CY λi l1 σ1 IV hi a1 F1 st1 PL Eh Jj hf=>?_;subst IV;have GW:sH W s1.heap:=λb o hb e=>by refine zl (IT.there i _ _ b Eh hb) λo' e' h' _=>?_;rw[e] at e';obtain rfl:=Hz e';exact h'
 have Ji:∀{i U h b o},St i U h->W b->h.get? b=ae o->∀es n,o.data≠.dict es n:=λ{i U h b o} hs hb e=>by
  refine zM (IT.there i _ _ b hs hb) λo' e' _ h1 _=>?_;rw[e] at e';obtain rfl:=Hz e';exact h1
 have dis:∀b,FB env b->¬W b:=λb hb hw=>by
  refine zM (IT.there i _ _ b Eh hw) λo' e' _ h1 h2=>?_
  rcases hb with rfl|⟨x,hx⟩
  .refine za F1.ns λ_ LF _=>jx LF λo es ep ho hd _=>?_;rw[ho] at e';obtain rfl:=Hz e';exact h1 _ _ hd
  .refine zca (F1.outc x b hx) λ_ _ v o ho hd=>?_;rw[ho] at e';obtain rfl:=Hz e';exact h2 _ hd
 cases hx:xs[i]? with
 | none=>
  have GP:i=xs.length:=fh hi (List.getElem?_eq_none_iff.mp hx);subst GP;refine IT.done σ1 s1 _ _ a1 PL Eh Jj λs2 a2 Cy=>gJ (hR _ _ (zK .next l1 σ1 trivial a2 (F1.stepB a1 Cy dis GW) (st1.trans (Cy.weaken λb hb=>.inr hb)) ?_));rw[iU] at hf;exact hf
 | some x=>
  have Cu:i<xs.length:=(List.getElem?_eq_some_iff.mp hx).1;have IP:xs.drop i=x::xs.drop (i+1):=by
   rw[cn Cu,(List.getElem?_eq_some_iff.mp hx).2]
  rw[IP] at hf;refine za hf λl2 Fk hf=>IT.item i x σ1 s1 _ _ _ (λv s2 hr=>hr) hx a1 PL Eh Jj λv s2 rv a2 Cy Ea=>?_
  .have F2:=F1.stepB a1 Cy dis GW;have Sj:=F2.noStay;refine ht d A l1 l2 σ1 s2 x v _ _ L hd a2 F2 rv Fk λs3 F3 a3 CI=>?_;have EE:St (i+1) σ1 s3.heap:=IT.stable _ _ _ _ _ Ea (CI.keepV a2 Sj) λb o hb e=>CI.keep b o e (Jj b hb).1 (λq=>dis b q hb) (Ji Ea hb e);refine Hb (hb d A l2 σ1 s3 _ _ L a3 F3 hf) (λf s4 CE=>?_) λ_ _ x=>zrg x;refine jB CE λfl l4 σ4 r a4 F4 CZ q4=>?_;have M1:Step (λb=>FB env b\/W b) U s σ4 s4:=st1.trans ((Cy.weaken λb hb=>.inr hb).trans ((CI.weaken λb hb=>.inl hb).trans (CZ.weaken λb hb=>.inl hb)));cases f with
   | next=>
    cases fl with
    | next=>
     obtain⟨hI4,hf4⟩:=q4;refine zcT (xs.length+1-(i+1)) (zrY Cu) (i+1) l4 σ4 rfl Cu a4 F4 M1 hI4 (IT.stable _ _ _ _ _ EE (CZ.keepV a3 F3.noStay) (λb o hb e=>CZ.keep b o e (Jj b hb).1 (λq=>dis b q hb) (Ji EE hb e))) (λb hb=>⟨by exact za (IT.there _ _ _ b EE hb) λo ho _=>CZ.gone ho (Jj b hb).1,(Jj b hb).2⟩) hf4
    | ret v=>exact r.elim
   | ret v=>
    cases fl with
    | next=>exact r.elim
    | ret av=>exact hR _ _ (zK (.ret av) l4 σ4 r a4 F4 M1 q4)
   | brk=>cases fl<;>exact r.elim
   | cont=>cases fl<;>exact r.elim
end
section
variable{X:Cx}{U:su}{s:ay}{W:aH->Prop}{h':cI}
theorem At.moved(a:At X U s)(t)(hW:∀b,W b->U b=af/\X.h₀.get? b=af)(nW:sH W s.heap)(nd:∀b o,W b->s.heap.get? b=ae o->∀es n,o.data≠.dict es n)(hk:∀b o,¬W b->s.heap.get? b=ae o->h'.get? b=ae o) :
  At X U { s with heap:=h',toks:=t }:=by
 have kv:sA U s.heap U h':=.mk' λb o e st=>hk b o (λq=>nW b o q e st) e;refine⟨λb o e=>hk b o (λq=>?_) (a.keep b o e),λb ao e=>(a.rep b ao e).mono kv λo ho=>hk b o (λq=>?_) ho,a.own,a.gens,a.os,λL hL=>⟨(a.ff L hL).1,?_⟩⟩
 .rw[(hW b q).2] at e;exact absurd (d6 e) (aA _)
 .rw[(hW b q).1] at e;exact absurd (d6 e) (aA _)
 .exact jK ((a.ff L hL).2) λo es n e d=>zaF o es n (hk L o (λq=>nd L o q e es n d) e) d
theorem Step.moved(U)(t)(hk:∀b o,¬W b->s.heap.get? b=ae o->h'.get? b=ae o)(hsz:s.heap.objs.size<=h'.objs.size):Step W U s U { s with heap:=h',toks:=t }:=
 .same (λb o e h=>hk b o h e) hsz
end
def sI(o:oz):Prop:=¬qM o/\(∀es n,o.data≠.dict es n)/\(∀v,o.data≠.cell v)
theorem sI.wE(hc:o.cls = .type T)(hd:o.data = .fields vs)(h2:T≠"range"):sI o:=by
 refine zu ?_ (λes n h=>?_) (λv h=>?_)
 rotate_left
 .rw[hd] at h;cases h
 .rw[hd] at h;cases h
 rintro(⟨h,_,_,h'⟩|⟨h,_⟩|⟨c,vs,h,_⟩)
 .rw[hd] at h';cases h'
 .rw[hc] at h;cases h;exact h2 rfl
 .rw[hc] at h;cases h
section
variable{X:Cx}{A:bn}{target:Expr}
theorem ki(ho:s.heap.get? it=ae o)(hc:o.cls = .type T)(hd:o.data = .fields vs)
  (hT:["enumerate","zip","dict_itemiterator","dict_reverseitemiterator","odict_iterator","itertools.zip_longest","itertools.pairwise"].contains T=ai)(h:Q () s) :
  aI M A (gK target (.ref it) v) Q E s:=by
 have go:aI M A (gK (.List [] ⟨0,0,0,0⟩) (.ref it) v) Q E s:=by
  cases v with
  | ref a=>
   refine G9 (wpAny_load ho ?_);rw[hc,hd];dsimp only;rw[hT];rw[pN,if_neg (by decide)];exact Ha h
  | _=>exact Ha h
 cases target with
 | Tuple _ _ _=>exact go
 | List _ _=>exact go
 | _=>exact Ha h
inductive IsL(U:su):AV->List AV->Prop
 | ref {a:aH} {xs:List AV}:sC U a=ae (.list xs)->IsL U (.ref a) xs
 | lst {xs:List AV}:IsL U (.lst xs) xs
theorem At.isList0(a:At X U s)(h:U b=ae (.list xs)\/U b=ae (.frz xs)):∃vs:List aD,s.heap.IsList b vs.toArray/\sw U s.heap xs vs/\xs.length<=1000000:=by
 rcases h with h|h
 .exact zm (a.rep b _ h) λvs n e r hl=>zz vs (qa _ e rfl n rfl) r hl
 .exact zl (a.rep b _ h) λvs e r hl=>zz vs e r hl
theorem At.isList(a:At X U s)(h:IsL U x xs)(r:sv U s.heap x v):∃(b:aH) (vs:List aD),v = .ref b/\(U b=ae (.list xs)\/U b=ae (.frz xs))/\s.heap.IsList b vs.toArray/\sw U s.heap xs vs/\xs.length<=1000000:=by
 cases h with
 | @ref b _ h=>
  obtain rfl:=sv.wK r;have h':=(zH h).1;exact zl (a.isList0 (.inl h')) λvs h1 h2 h3=>⟨b,vs,rfl,.inl h',h1,h2,h3⟩
 | lst=>
  refine za (sv.wS r) λb Eg h'=>?_;subst Eg;exact zl (a.isList0 (.inr h')) λvs h1 h2 h3=>jh b vs rfl (.inr h') h1 h2 h3
def xh(x:AV)(xs:List AV)(U:su):Prop:=x.refE True λb=>U b=ae (.list xs)
def wy(x:AV)(b:aH)(xs:List AV)(U:su):Prop:=x.refE (U b=ae (.frz xs)) λc=>c=b
theorem At.ofSt(a:At X U s)(h:xh x xs (sC U))(h':wy x b xs U):∃vs:List aD,s.heap.IsList b vs.toArray/\sw U s.heap xs vs:=by
 have:U b=ae (.list xs)\/U b=ae (.frz xs):=by
  cases x with
  | ref c=>have h':c=b:=h';subst h';exact .inl (zH h).1
  | _=>exact .inr h'
 exact zl (a.isList0 this) λvs h1 h2 _=>zf vs h1 h2
theorem wy.mono(k:sA U h U' h')(q:wy x b xs U):wy x b xs U':=by
 cases x with
 | ref c=>exact q
 | _=>exact k.frz _ _ q
theorem zlM(hh:A.handled=af)(it b)(x)(xs):tX X A target (.ref it) (xh x xs) xs (λc=>c=it) (λi U h=>h.IsListIter it b i/\wy x b xs U) where
 stable:=λi U h U' h' hp kv k=>jC hp λh1 q=>za h1 λo ho r=>⟨⟨o,k _ _ rfl ho,r⟩,q.mono kv⟩
 there:=λi U h c hp e=>jC hp λh1 _=>zl h1 λo ho hc hd=>by subst e;exact⟨o,ho,sI.wE hc hd (by decide)⟩
 item:=λi x U s Q Qn E GC hx a hI CD hW h=>by
  obtain⟨CD,hq⟩:=CD;refine za (a.ofSt hI hq) λvs hl rv=>za (rv.get hx) λv hv r=>zl (id CD) λo ho hc hd=>?_;have nW:sH (λc=>c=it) s.heap:=λc o' e e'=>by subst e;rw[ho] at e';obtain rfl:=Hz e';exact(sI.wE hc hd (by decide)).1
  have nd:∀b o,b=it->s.heap.get? b=ae o->∀es n,o.data≠.dict es n:=λc o' e e'=>by subst e;rw[ho] at e';obtain rfl:=Hz e';exact(sI.wE hc hd (by decide)).2.1
  refine wpAny_pyNext_list_item CD hl (by simpa using hv) λh' D8 Cz=>GC v _ (zl (id D8) λo' CM hc' DC=>?_);have hk:∀c o,¬c=it->s.heap.get? c=ae o->h'.get? c=ae o:=λc o hc e=>(Cz.2 c hc).trans e;have kv:sA U s.heap U h':=.mk' λc o' e st=>hk c o' (λq=>nW c o' q e st) e;exact ki CM hc' DC (by decide) (h v { s with heap:=h' } (r.mono kv) (a.moved (t:=s.toks) hW nW nd hk) (Step.moved U s.toks hk (bp Cz.1.symm)) ⟨D8,hq⟩)
 done:=λU s Q E a hI CD hW h=>by
  obtain⟨CD,hq⟩:=CD;refine za (a.ofSt hI hq) λvs hl rv=>zl (id CD) λo ho hc hd=>?_;have nW:sH (λc=>c=it) s.heap:=λc o' e e'=>by subst e;rw[ho] at e';obtain rfl:=Hz e';exact(sI.wE hc hd (by decide)).1
  have nd:∀b o,b=it->s.heap.get? b=ae o->∀es n,o.data≠.dict es n:=λc o' e e'=>by subst e;rw[ho] at e';obtain rfl:=Hz e';exact(sI.wE hc hd (by decide)).2.1
  refine zO (wpAny_pyNext_list_end hh CD hl (by simp[rv.length]) λh' EJ hsz=>?_);have hk:∀c o,¬c=it->s.heap.get? c=ae o->h'.get? c=ae o:=λc o hc e=>EJ c o hc e;exact h { s with heap:=h' } (a.moved (t:=s.toks) hW nW nd hk) (Step.moved U s.toks hk hsz)
 self:=λi U s Q E CD h=>wpAny_pyIter_listiter CD.1 h
theorem zi5(hh:A.handled=af)(it b)(xs):tX X A target (.ref it) (λ_=>True) xs (λc=>c=it) (λi U h=>h.IsTupleIter it b i/\∃vs:List aD,h.IsTuple b vs.toArray/\sw U h xs vs) where
 stable:=λi U h U' h' hp kv k=>jC hp λh1 h2=>za h1 λo ho r=>za h2 λvs ht rv=>⟨⟨o,k _ _ rfl ho,r⟩,vs,kv.tup ht,rv.mono kv⟩
 there:=λi U h c hp e=>jC hp λh1 _=>zl h1 λo ho hc hd=>by subst e;exact⟨o,ho,sI.wE hc hd (by decide)⟩
 item:=λi x U s Q Qn E GC hx a hI CD hW h=>by
  refine qT CD λDr vs hl rv=>za (rv.get hx) λv hv r=>zl (id Dr) λo ho hc hd=>?_;have nW:sH (λc=>c=it) s.heap:=λc o' e e'=>by subst e;rw[ho] at e';obtain rfl:=Hz e';exact(sI.wE hc hd (by decide)).1
  have nd:∀b o,b=it->s.heap.get? b=ae o->∀es n,o.data≠.dict es n:=λc o' e e'=>by subst e;rw[ho] at e';obtain rfl:=Hz e';exact(sI.wE hc hd (by decide)).2.1
  refine wpAny_pyNext_tuple_item Dr hl (by simpa using hv) λh' D8 Cz=>GC v _ (zl (id D8) λo' CM hc' DC=>?_);have hk:∀c o,¬c=it->s.heap.get? c=ae o->h'.get? c=ae o:=λc o hc e=>(Cz.2 c hc).trans e;have kv:sA U s.heap U h':=.mk' λc o' e st=>hk c o' (λq=>nW c o' q e st) e;exact ki CM hc' DC (by decide) (h v { s with heap:=h' } (r.mono kv) (a.moved (t:=s.toks) hW nW nd hk) (Step.moved U s.toks hk (bp Cz.1.symm))
   (zah D8 vs (kv.tup hl) (rv.mono kv)))
 done:=λU s Q E a hI CD hW h=>by
  refine qT CD λDr vs hl rv=>zl (id Dr) λo ho hc hd=>?_;have nW:sH (λc=>c=it) s.heap:=λc o' e e'=>by subst e;rw[ho] at e';obtain rfl:=Hz e';exact(sI.wE hc hd (by decide)).1
  have nd:∀b o,b=it->s.heap.get? b=ae o->∀es n,o.data≠.dict es n:=λc o' e e'=>by subst e;rw[ho] at e';obtain rfl:=Hz e';exact(sI.wE hc hd (by decide)).2.1
  refine zO (wpAny_pyNext_tuple_end hh Dr hl (by simp[rv.length]) λh' EJ hsz=>?_);have hk:∀c o,¬c=it->s.heap.get? c=ae o->h'.get? c=ae o:=λc o hc e=>EJ c o hc e;exact h { s with heap:=h' } (a.moved (t:=s.toks) hW nW nd hk) (Step.moved U s.toks hk hsz)
 self:=λi U s Q E CD h=>wpAny_pyIter_tupleiter CD.1 h
noncomputable def xf(lo:Int):Nat->List AV
 | 0=>[]
 | n+1=>.int lo::xf (lo+1) n
theorem zhu(n):∀lo:Int,(xf lo n).length=n:=by
 induction n with
 | zero=>exact λ_=>rfl
 | succ n ih=>exact λlo=>congrArg (· + 1) (ih (lo+1))
theorem zoq(n):∀(lo:Int) (i:Nat),(xf lo n)[i]? = if i<n then ae (.int (lo+i)) else af:=by
 induction n with
 | zero=>exact λ_ i=>rfl
 | succ n ih=>
  intro lo i;cases i with
  | zero=>rw[if_pos (dG _),Int.ofNat_zero,lz];rfl
  | succ i=>
   refine(ih (lo+1) i).trans ?_;rw[show lo+1+(i:Int)=lo+((i+1:Nat):Int) from y97]
   by_cases h:i<n
   .rw[if_pos h,if_pos (zBd h)]
   .rw[if_neg h,if_neg (zBK h)]
theorem zi4(hh:A.handled=af)(it)(lo)(n):tX X A target (.ref it) (λ_=>True) (xf lo n) (λc=>c=it) (λi U h=>IsRangeIter h it (lo+i) ((n:Int)-i) 1) where
 stable:=λi U h U' h' ho _ k=>k _ _ rfl ho
 there:=λi U h c ho e=>by subst e;exact zf _ ho (sI.wE rfl rfl (by decide))
 item:=λi x U s Q Qn E GC hx a hI CD hW h=>by
  rw[zoq] at hx
  by_cases hi:i<n
  .simp only[hi,if_true,nJ] at hx;subst hx;have nW:sH (λc=>c=it) s.heap:=λc o' e e'=>by subst e;rw[CD] at e';obtain rfl:=Hz e';exact(sI.wE (T:="range_iterator") rfl rfl (by decide)).1
   have nd:∀b o,b=it->s.heap.get? b=ae o->∀es n,o.data≠.dict es n:=λc o' e e'=>by subst e;rw[CD] at e';obtain rfl:=Hz e';exact(sI.wE (T:="range_iterator") rfl rfl (by decide)).2.1
   refine wpAny_pyNext_range_item CD (zBx hi) λh' D8 Cz=>GC _ _ ?_;have hk:∀c o,¬c=it->s.heap.get? c=ae o->h'.get? c=ae o:=λc o hc e=>(Cz.2 c hc).trans e;have FC:IsRangeIter h' it (lo+((i+1:Nat):Int)) ((n:Int)-((i+1:Nat):Int)) 1:=by
    have e1:lo+((i+1:Nat):Int)=lo+(i:Int)+1:=y98;have e2:(n:Int)-((i+1:Nat):Int)=(n:Int)-(i:Int)-1:=zBP;rw[e1,e2];exact D8
   exact ki D8 rfl rfl (by decide) (h _ { s with heap:=h',toks:=s.toks+1 } (.int _ _) (a.moved (t:=s.toks+1) hW nW nd hk) (Step.moved U (s.toks+1) hk (bp Cz.1.symm)) FC)
  .simp[hi] at hx
 done:=λU s Q E a hI CD hW h=>by
  rw[zhu] at CD;have nW:sH (λc=>c=it) s.heap:=λc o' e e'=>by subst e;rw[CD] at e';obtain rfl:=Hz e';exact(sI.wE (T:="range_iterator") rfl rfl (by decide)).1
  have nd:∀b o,b=it->s.heap.get? b=ae o->∀es n,o.data≠.dict es n:=λc o' e e'=>by subst e;rw[CD] at e';obtain rfl:=Hz e';exact(sI.wE (T:="range_iterator") rfl rfl (by decide)).2.1
  refine zO (wpAny_pyNext_range_end hh CD zAt λh' EJ hsz=>?_);have hk:∀c o,¬c=it->s.heap.get? c=ae o->h'.get? c=ae o:=λc o hc e=>EJ c o hc e;exact h { s with heap:=h' } (a.moved (t:=s.toks) hW nW nd hk) (Step.moved U s.toks hk hsz)
 self:=λi U s Q E CD h=>wpAny_pyIter_rangeiter CD h
noncomputable def xC(k:Nat):List AV->List AV
 | []=>[]
 | x::xs=>.tup [.int k,x]::xC (k+1) xs
theorem zf4(xs):∀k:Nat,(xC k xs).length=xs.length:=by
 induction xs with
 | nil=>exact λ_=>rfl
 | cons x xs ih=>exact λk=>congrArg (· + 1) (ih (k+1))
theorem zlv(xs):∀k i:Nat,(xC k xs)[i]? = xs[i]?.map λx=>.tup [.int ((k+i:Nat):Int),x]:=by
 induction xs with
 | nil=>exact λ_ _=>rfl
 | cons x xs ih=>
  intro k i;cases i with
  | zero=>rfl
  | succ i=>have e:=ih (k+1) i;rw[show k+1+i=k+(i+1) from zp4] at e;exact e
theorem zlL(hh:A.handled=af)(e it b)(CL:e≠it)(x)(xs) :
  tX X A (.Tuple elts x1 pos) (.ref e) (xh x xs) (xC 0 xs) (λc=>c=e\/c=it) (λi U h=>h.IsListIter it b i/\wy x b xs U/\∃De,IsEnum h e it i De) where
 stable:=λi U h U' h' ⟨⟨o,ho,r⟩,q,De,he⟩ kv k=>⟨⟨o,k _ _ (.inr rfl) ho,r⟩,q.mono kv,De,k _ _ (.inl rfl) he⟩
 there:=λi U h c ⟨⟨o,ho,hc,hd⟩,_,De,he⟩ q=>by
  rcases q with rfl|rfl
  .exact zf _ he (sI.wE rfl rfl (by decide))
  .exact zf o ho (sI.wE hc hd (by decide))
 item:=λi x U s Q Qn E GC hx a hI CD hW h=>by
  refine kz CD λDr hq De he=>za (a.ofSt hI hq) λvs hl rv=>?_;rw[zlv] at hx;refine za (Option.map_eq_some_iff.mp hx) λy hy DM=>?_;subst DM;refine za (rv.get hy) λv hv r=>zl (id Dr) λo ho hc hd=>?_;have nW:sH (λc=>c=e\/c=it) s.heap:=λc o' q e'=>by
   rcases q with rfl|rfl
   .rw[he] at e';obtain rfl:=Hz e';exact(sI.wE (T:="enumerate") rfl rfl (by decide)).1
   .rw[ho] at e';obtain rfl:=Hz e';exact(sI.wE hc hd (by decide)).1
  have nd:∀b o,b=e\/b=it->s.heap.get? b=ae o->∀es n,o.data≠.dict es n:=λc o' q e'=>by
   rcases q with rfl|rfl
   .rw[he] at e';obtain rfl:=Hz e';exact(sI.wE (T:="enumerate") rfl rfl (by decide)).2.1
   .rw[ho] at e';obtain rfl:=Hz e';exact(sI.wE hc hd (by decide)).2.1
  refine wpAny_pyNext_enum_item he Dr hl (by simpa using hv) CL λh' EJ D8 Nf hsz hk=>GC _ _ (wpAny_letOwnedTupleGo_enum EJ λh'' Nu GR=>?_);have CO:∀c o,¬(c=e\/c=it)->s.heap.get? c=ae o->h''.get? c=ae o:=λc o hc eo=>by
   have h1:c≠e:=λq=>hc (.inl q);have h2:c≠it:=λq=>hc (.inr q);exact(GR.2 c h1).trans (hk c o h1 h2 eo)
  have kv:sA U s.heap U h'':=.mk' λc o' e st=>CO c o' (λq=>nW c o' q e st) e;have Qf:s.heap.objs.size≠e:=eW (aO he);have FC:h''.IsListIter it b (i+1):=by
   exact za D8 λo3 NJ r3=>zf o3 ((GR.2 it (bO CL)).trans NJ) r3
  refine h (.ref s.heap.objs.size) { s with heap:=h'',toks:=s.toks+1 } (.tup (vs:=[.int i s.toks,v]) (by simp) (qa _ ((GR.2 _ Qf).trans Nf) rfl 0 rfl) (.cons ?_ (.cons (r.mono kv) .nil)))
   (a.moved (t:=s.toks+1) hW nW nd CO) (Step.moved U (s.toks+1) CO (by rw[GR.1,hsz];exact zd 0x905000 rfl)) (zag FC hq v ?_)
  .have:((0+i:Nat):Int)=(i:Int):=by exact zd 0x32045323 rfl
   rw[this];exact .int _ _
  .have:((i+1:Nat):Int)=(i:Int)+1:=by exact zd 0x90668905323 rfl
   exact Nu
 done:=λU s Q E a hI CD hW h=>by
  rw[zf4] at CD;refine kz CD λDr hq De he=>za (a.ofSt hI hq) λvs hl rv=>zl (id Dr) λo ho hc hd=>?_;have nW:sH (λc=>c=e\/c=it) s.heap:=λc o' q e'=>by
   rcases q with rfl|rfl
   .rw[he] at e';obtain rfl:=Hz e';exact(sI.wE (T:="enumerate") rfl rfl (by decide)).1
   .rw[ho] at e';obtain rfl:=Hz e';exact(sI.wE hc hd (by decide)).1
  have nd:∀b o,b=e\/b=it->s.heap.get? b=ae o->∀es n,o.data≠.dict es n:=λc o' q e'=>by
   rcases q with rfl|rfl
   .rw[he] at e';obtain rfl:=Hz e';exact(sI.wE (T:="enumerate") rfl rfl (by decide)).2.1
   .rw[ho] at e';obtain rfl:=Hz e';exact(sI.wE hc hd (by decide)).2.1
  refine zO (wpAny_pyNext_enum_end hh he Dr hl (by simp[rv.length]) λh' EJ hsz=>?_);have hk:∀c o,¬(c=e\/c=it)->s.heap.get? c=ae o->h'.get? c=ae o:=λc o hc e=>EJ c o (λq=>hc (.inr q)) e;exact h { s with heap:=h' } (a.moved (t:=s.toks) hW nW nd hk) (Step.moved U s.toks hk hsz)
 self:=λi U s Q E CD h=>by
  exact kz CD λ_ _ De he=>nL he h
end
noncomputable def vl(cells:List (b7×aH))(p:b7×bC)(acc:List (b7×aH)):List (b7×aH):=if p.2==.free then (match cells.lookup p.1 with|some c=>(p.1,c)::acc|none=>acc) else acc
noncomputable def tB(cells:List (b7×aH))(names:List (b7×bC))(acc:List (b7×aH)):List (b7×aH):=names.foldl (λa p=>vl cells p a) acc
theorem zfW(cells)(p)(acc):(vl cells p acc=acc/\(p.2 = .free->cells.lookup p.1=af))\/∃c,p.2 = .free/\cells.lookup p.1=ae c/\vl cells p acc=(p.1,c)::acc:=by
 unfold vl;cases hk:p.2==cb with
 | true=>
  cases hy:cells.lookup p.1 with
  | none=>exact .inl ⟨rfl,λ_=>rfl⟩
  | some c=>exact .inr ⟨c,H7 hk,rfl,rfl⟩
 | false=>exact .inl ⟨rfl,λe=>by rw[e] at hk;exact nbo hk⟩
theorem zg8(f)
  (hf:∀n k cs,f (n,k) cs=if k==.free then (do let c <-cellOf env n;b9 (.yield ((n,c)::cs))) else b9 (.yield cs))(names) :
  ∀(acc:List (b7×aH)),(∀x,(x,cb)∈names->(env.cells.lookup x).isSome=ag)->(iA names acc f:lu (List (b7×aH)))=b9 (tB env.cells names acc):=by
 induction names with
 | nil=>exact λ_ _=>rfl
 | cons p r ih=>
  intro acc h;have e:f p acc=b9 (.yield (vl env.cells p acc)):=by
   refine(hf p.1 p.2 acc).trans ?_;unfold vl;cases hk:p.2==cb with
   | false=>rfl
   | true=>
    obtain⟨c,hc⟩:=Option.isSome_iff_exists.mp (h p.1 (by rw[<-H7 hk];exact aj));unfold cellOf;rw[hc];rfl
  rw[pn,e];exact ih _ λy hy=>h y (al _ hy)
theorem kx(h:∀x,(x,cb)∈scope.names->(env.cells.lookup x).isSome=ag):closureFor scope env=b9 (tB env.cells scope.names []):=by
 unfold closureFor;simp only[bind_pure_comp];rw[zg8 (env:=env) _ (λn k cs=>?_) scope.names [] h]
 .rfl
 .simp
theorem zkr(names):∀(acc:List (b7×aH)) {x:b7} {c:aH},(x,c)∈tB cells names acc->(x,c)∈acc\/(cells.lookup x=ae c/\(x,cb)∈names):=by
 induction names with
 | nil=>exact λ_ _ _ h=>.inl h
 | cons p r ih=>
  intro acc x c h
  rcases ih (vl cells p acc) h with q|q
  .rcases zfW cells p acc with e|⟨d,hk,hy,e⟩
   .rw[e.1] at q;exact .inl q
   .rw[e] at q
    rcases List.mem_cons.mp q with e|q
    .have e1:x=p.1:=congrArg pO e;have e2:c=d:=congrArg Prod.snd e;rw[e1,e2,<-hk];exact .inr ⟨hy,aj⟩
    .exact .inl q
  .exact .inr ⟨q.1,al _ q.2⟩
theorem zqg(names):∀(acc:List (b7×aH)) {p:b7×aH},p∈acc->p∈tB cells names acc:=by
 induction names with
 | nil=>exact λ_ _ h=>h
 | cons q r ih=>
  intro acc p h
  rcases zfW cells q acc with e|⟨d,_,_,e⟩
  .exact ih (vl cells q acc) (e.1.symm▸h)
  .exact ih (vl cells q acc) (e▸al _ h)
theorem ziL(hc:cells.lookup x=ae c)(names):∀(acc:List (b7×aH)),(x,cb)∈names->(x,c)∈tB cells names acc:=by
 induction names with
 | nil=>exact λ_ h=>nomatch h
 | cons p r ih=>
  intro acc h
  rcases List.mem_cons.mp h with e|h
  .subst e;refine zqg r _ ?_;show _∈(match cells.lookup x with|some c=>(x,c)::acc|none=>acc);rw[hc];exact aj
  .exact ih _ h
theorem zlp(hp:cells.Pairwise λx y=>x.2≠y.2)(names):∀(acc:List (b7×aH)),(names.map (·.1)).Nodup->(∀x∈acc,cells.lookup x.1=ae x.2/\x.1∉names.map (·.1))->
  (acc.Pairwise λx y=>x.2≠y.2)->(tB cells names acc).Pairwise λx y=>x.2≠y.2:=by
 induction names with
 | nil=>exact λ_ _ _ h=>h
 | cons p r ih=>
  intro acc hn ha h;have CQ:=List.nodup_cons.mp hn;have HN:∀x∈acc,cells.lookup x.1=ae x.2/\x.1∉r.map (·.1):=λx hx=>⟨(ha x hx).1,λq=>(ha x hx).2 (al _ q)⟩
  refine ih (vl cells p acc) CQ.2 ?_ ?_
  .rcases zfW cells p acc with e|⟨d,_,hy,e⟩
   .rw[e.1];exact HN
   .rw[e];exact List.forall_mem_cons.mpr ⟨⟨hy,CQ.1⟩,HN⟩
  .rcases zfW cells p acc with e|⟨d,_,hy,e⟩
   .rw[e.1];exact h
   .rw[e];refine List.pairwise_cons.mpr ⟨λq hq e=>?_,h⟩;have h1:=(ha q hq).1;rw[<-show d=q.2 from e] at h1;exact(ha q hq).2 (name_of_addr hp (mem_of_lookup hy) (mem_of_lookup h1)▸aj)
structure sV(sc:List (b7×bC))(nm:List (b7×Nat))(N:Nat)(names:List (b7×bC))(D4:List (b7×Nat))(k:Nat):Prop where
 nodup:(names.map (·.1)).Nodup
 kinds:∀x kd,(x,kd)∈names->kd = .local\/kd = .globalImplicit\/(kd = .free/\sc.lookup x=ae .cell/\∃i,nm.lookup x=ae i/\D4.lookup x=ae i)
 vars:∀x i,D4.lookup x=ae i->(names.lookup x=ae .local/\N<=i/\i<N+k)\/(names.lookup x=ae .free/\nm.lookup x=ae i)
 inj:∀x y i,D4.lookup x=ae i->D4.lookup y=ae i->x=y
 len:jR D4=N+k
theorem kK{V:Type}:∀{l:List (b7×V)} {n:b7} {c:V},l.lookup n=ae c->(n,c)∈l:=mem_of_lookup
theorem jS{V:Type}{r:List (b7×V)}{n k:b7}{v:V}(h:n≠k):oX n ((k,v)::r)=r.lookup n:=by rw[bF,beq_eq_false_iff_ne.mpr h]
theorem qc{V:Type}{l:List (b7×V)}{n:b7}{c:V}:(l.map (·.1)).Nodup->(n,c)∈l->l.lookup n=ae c:=by
 induction l with
 | nil=>exact λ_ h=>nomatch h
 | cons p r ih=>
  intro hn h;have CQ:=List.nodup_cons.mp hn
  rcases List.mem_cons.mp h with e|h
  .rw[<-e,bF,beq_self_eq_true]
  .exact(jS λe:n=p.1=>CQ.1 (show p.1∈_ from e▸b8 (f:=(·.1)) h)).trans (ih CQ.2 h)
section
variable{X:Cx}{env:fB}{nm D4:List (b7×Nat)}{l:Loc}{U:su}{s:ay}{scope:Scope}{N k:Nat}
theorem zcC(EO:sF env)(CK:sV env.scope.names nm N scope.names D4 k)(cl)(C)(x) :
  (scope.names.lookup x=ae .local->(cY scope cl C env).kindOf x=ae .local)/\(scope.names.lookup x=ae .free->(cY scope cl C env).kindOf x=ae .cell):=by
 have Dj:∀(names:List (b7×bC)),(∀x,(x,cb)∈names->env.kindOf x=ae .cell)->
   (names.lookup x=ae .local->(names.map λ(n,k)=>if (k==cb&&env.scope.kind==.function&&env.kindOf n==ae .cell) then (n,iE) else (n,k)).lookup x=ae .local)/\
   (names.lookup x=ae .free->(names.map λ(n,k)=>if (k==cb&&env.scope.kind==.function&&env.kindOf n==ae .cell) then (n,iE) else (n,k)).lookup x=ae .cell):=by
  intro names
  induction names with
  | nil=>intro _;exact⟨λh=>by simp at h,λh=>by simp at h⟩
  | cons p r ih=>
   intro hk;obtain⟨n,kd⟩:=p;have Lm:=ih λy hy=>hk y (al _ hy);simp only[aY,bF]
   by_cases hx:(x==n)=ag
   .have Ew:=beq_iff_eq.mp hx;subst Ew;simp only[beq_self_eq_true];refine⟨λh=>?_,λh=>?_⟩
    .obtain rfl:=Hz h;simp
    .obtain rfl:=Hz h;have:=hk x aj;simp[EO.kind,this]
   .have hx':(x==n)=ai:=by simpa using hx
    simp only[hx']
    by_cases hc:(kd==cb&&env.scope.kind==.function&&env.kindOf n==ae .cell)=ag
    .rw[if_pos hc,bF,hx'];exact Lm
    .rw[if_neg hc,bF,hx'];exact Lm
 refine Dj scope.names λy hy=>?_
 rcases CK.kinds y .free hy with h|h|⟨_,h,_⟩
 .cases h
 .cases h
 .exact h
theorem sV.closure(F:FR X env nm l U s.heap)(CK:sV env.scope.names nm N scope.names D4 k):∀x,(x,cb)∈scope.names->(env.cells.lookup x).isSome=ag:=λx hx=>by
 rcases CK.kinds x .free hx with h|h|⟨_,h,i,hi,_⟩
 .cases h
 .cases h
 .refine z9 (F.cell x i hi h) λc v hc _=>?_;rw[hc];rfl
theorem ziO(EO:sF env)(CK:sV env.scope.names nm N scope.names D4 k)(hk:scope.kind = .function)(C):sF (cY scope (tB env.cells scope.names []) C env) where
 kind:=hk
 glob:=EO.glob
 bi:=EO.bi
 apart:=zlp EO.apart _ _ CK.nodup (λ_ h=>nomatch h) .nil
theorem zqy(EO:sF env)(F:FR X env nm l U s.heap)(hl:l.length=N)(CK:sV env.scope.names nm N scope.names D4 k)(hk:∀b o,s.heap.get? b=ae o->h'.get? b=ae o)
  (hC:h'.Ns C λ_=>af)(Iw:U C=af)(LC:X.h₀.get? C=af) :
  FR X (cY scope (tB env.cells scope.names []) C env) D4 (l++fH k af) U h':=by
 have kv:sA U s.heap U h':=.ext hk;refine⟨(zf _ hC (λx i hx FX=>?_)),λx i hx FX=>?_,⟨Iw,LC⟩,⟨λx i hx=>?_,CK.inj⟩,by rw[aq,dA,hl,CK.len],λx c hx=>?_⟩
 .rcases CK.vars x i hx with⟨_,h1,h2⟩|⟨h1,_⟩
  .have:(l++fH k af).getD i af=af:=by
    rw[aF,bY (zr2 hl h1),iV];split<;>rfl
   rw[this];trivial
  .rw[(zcC EO CK _ C x).2 h1] at FX;cases FX
 .rcases CK.vars x i hx with⟨h1,_⟩|⟨h1,h2⟩
  .rw[(zcC EO CK _ C x).1 h1] at FX;cases FX
  .have hm:=kK h1
   rcases CK.kinds x .free hm with h|h|⟨_,h,_⟩
   .cases h
   .cases h
   .refine zm (F.cell x i h2 h) λc v hc Dq hr=>zP c v ?_ (Dq.keeps hk) ?_
    .have h3:(x,c)∈tB env.cells scope.names []:=ziL hc _ _ hm;cases h4:(tB env.cells scope.names []).lookup x with
     | none=>
      exfalso;have:=List.lookup_eq_none_iff.mp h4 (x,c) h3;simp at this
     | some c'=>
      rcases zkr _ _ (kK h4) with q|⟨q,_⟩
      .cases q
      .rw[hc] at q;obtain rfl:=Hz q;exact h4
    .have hi:i<l.length:=F.nmok.1 x i h2;rw[aF,bE hi,<-aF];exact hr.mono kv
 .rw[aq,dA,hl]
  rcases CK.vars x i hx with⟨_,h1,h2⟩|⟨_,h2⟩
  .exact zxW h2
  .have:=F.nmok.1 x i h2;exact zg 0x20d120a00690500608c46 rfl hl this
 .rcases zkr _ _ hx with q|⟨q,_⟩
  .cases q
  .exact kz (F.outc x c (kK q)) λh1 h2 v h3=>zag h1 h2 v (h3.keeps hk)
end
def Bh(c:Option AE)(d:Dp)(l:Loc)(Q:Bool->su->Prop)(U:su):Prop:=
 match c with
 | none=>Q ag U
 | some m=>m d l (vp Q) (λ_ _=>False) U
noncomputable def vn(I:su->Prop)(t:uF)(c:Option AE)(elt:AE)(d:Dp)(Q:List AV->su->Prop):List AV->List AV->Loc->su->Prop
 | [],acc,l,U=>Q acc U
 | x::xs,acc,l,U=>∃l',j2 t x l=ae l'/\Bh c d l' (λok σ1=>cB ok (elt d l' (λv σ2=>I σ2/\acc.length<1000000/\vn I t c elt d Q xs (acc++[v]) l' σ2) (λ_ _=>False) σ1)
   (I σ1/\vn I t c elt d Q xs acc l' σ1)) U
noncomputable def yp(X:Cx)(env:fB)(nm:List (b7×Nat)):List Expr->Option AE->Prop
 | [],af=>True
 | [e],ae m=>qR X env nm e m
 | _,_=>False
theorem zbg(vs)(n):¬qM (zY vs n):=by
 rintro(⟨h,_⟩|⟨h,_⟩|⟨_,_,h,_⟩)<;>simp[zY] at h
theorem zcw(vs)(n):∀es m,(zY vs n).data≠.dict es m:=λ_ _=>nofun
theorem ltA{h:cI}(e:h.get? a=ae o):a<h.objs.size:=aO e
theorem neA(h:¬a=b):¬a=b:=h
theorem leA{a b:Nat}(h:a<=b):a<=b:=h
section
variable{X:Cx}{A:bn}
theorem ze1{R:pM->ay->Prop}(J:Nat->ay->Prop)
  (Oi:∀n s,J n s->aI X.M A (oF it) (λr s₁=>match r with
   | none=>R (.ok .next) s₁
   | some v=>aI X.M A (gK target it v) (λ_ Po=>aI X.M A (rW target env v) (λ_ s₂=>
     aI X.M A (iA ifs ag λc r=>if r=ag then do let ok <-isTrue c env (fm c env);b9 (ce ok) else b9 (ce r)) (λok s₃=>
      if ok=ag then aI X.M A (fm elt env) (λx s₄=>aI X.M A (call (.builtin "list.append") [acc,x]) (λ_ s₅=>∃m,m<n/\J m s₅) (λ_ _=>False) s₄) (λ_ _=>False) s₃
      else ∃m,m<n/\J m s₃) (λ_ _=>False) s₂) (λ_ _=>False) Po) (λ_ _=>False) s₁) (λ_ _=>False) s)
  (n)(h:J n s):Hl X.M A (.compLoop (.ListComp elt [⟨target,iter,ifs,0⟩] scope pos) 0 it acc env) R s:=by
 refine codeAny_loop rfl J (λn s hI=>?_) n h;show aI _ A ((compTurn (.ListComp elt [⟨target,iter,ifs,0⟩] scope pos) 0 it acc env).onRaise (λx=>do rL x env;theTreesLotGoes x)) _ _ s;refine wpAny_noted ?_;rw[compTurn_list];refine G9 (Hj (G9 (Hb (Oi n s hI) (λr s₁ h₁=>?_) λ_ _ h'=>h'.elim)));cases r with
 | none=>exact Ha h₁
 | some v=>
  refine G9 (Hb h₁ (λ_ Po RQ=>?_) λ_ _ h'=>h'.elim);refine G9 (Hb RQ (λ_ s₂ h₂=>G9 (Hb h₂ (λok s₃ h₃=>?_) λ_ _ h'=>h'.elim)) λ_ _ h'=>h'.elim);cases ok with
  | false=>exact Ha ⟨rfl,h₃⟩
  | true=>
   exact G9 (G9 (Hb h₃ (λx s₄ h₄=>G9 (Hb h₄ (λ_ s₅ h₅=>Ha (Ha ⟨rfl,h₅⟩)) λ_ _ h'=>h'.elim)) λ_ _ h'=>h'.elim))
theorem zit(hc:yp X env nm ifs c)(L:sK X d A)(a:At X U s)(F:FR X env nm l U s.heap)
  (h:Bh c d l Q (sC U))(k:∀b s',sW X U s Q b s'->R b s') :
  aI X.M A (iA ifs ag λc r=>if r=ag then do let ok <-isTrue c env (fm c env);b9 (ce ok) else b9 (ce r)) R (λ_ _=>False) s:=by
 match ifs,c,hc with
 | [],af,_=>exact wpAny_tests_nil (k _ _ (zz U a (.refl ..) h))
 | [e],ae m,hc=>exact wpAny_tests_one (Hb (hc d A l U s Q (λ_ _=>False) L a F h) (λb s' x=>k b s' x) λ_ _ x=>noX x)
theorem At.adopt(a:At X U s)(hD:U D=af)(h0:X.h₀.get? D=af)(Rg:D∉X.fr)(hr:sA U s.heap (U.set D ao) s.heap->tH X (U.set D ao) s.heap D ao):At X (U.set D ao) s:=by
 have kv:sA U s.heap (U.set D ao) s.heap:=(sA.ext λ_ _ e=>e).set (zeC hD);refine⟨a.keep,λb bo e=>?_,λb bo e Ej=>?_,a.gens,a.os,λL hL=>⟨?_,(a.ff L hL).2⟩⟩
 .by_cases hb:b=D
  .subst hb;rw[su.wA] at e;obtain rfl:=Hz e;exact hr kv
  .rw[su.wB _ _ hb] at e;exact(a.rep b bo e).mono kv λ_ h=>h
 .by_cases hb:b=D
  .subst hb;exact h0
  .rw[su.wB _ _ hb] at e;exact a.own b bo e Ej
 .rw[su.wB _ _ (by rintro rfl;exact Rg hL)];exact(a.ff L hL).1
theorem Step.adopt(st:Step B U s U' s')(hD:U' D=af)(hn:s.heap.objs.size<=D):Step B U s (U'.set D ao) s':=
 ⟨st.keep,st.keepD,λb h1 h2=>by
  by_cases hb:b=D
  .rw[hb];exact hn
  .rw[su.wB _ _ hb] at h1;exact st.fresh b h1 h2,st.size,λb xs e=>zdI (zeC hD) b xs (st.frz b xs e)⟩
theorem zcO{scope:Scope}{I:su->Prop}{W:aH->Prop}
  {St:Nat->su->cI->Prop}{Q:List AV->su->Prop}{RR:aD->aH->pM->ay->Prop}{E:aD->ay->Prop}
  (EO:sF env)(L:sK X d A)(QB:d.hd=ai)(a:At X U s)(F:FR X env nm l U s.heap)(hl:l.length=N)(CK:sV env.scope.names nm N scope.names D4 k)(hk:scope.kind = .function)
  (IT:tX X A target it I xs W St)(CD:St 0 U s.heap)(hW:∀b,W b->U b=af/\X.h₀.get? b=af)(hI:I (sC U))
  (ht:∀C,wj (λb=>b=C) X (cY scope (tB env.cells scope.names []) C env) D4 target t)(hc:∀C,yp X (cY scope (tB env.cells scope.names []) C env) D4 ifs c)(hm:∀C i l U s Q Z,St i U s.heap->At X U s->FR X (cY scope (tB env.cells scope.names []) C env) D4 l U s.heap->m d l Q Z (sC U)->aI X.M A (fm elt (cY scope (tB env.cells scope.names []) C env)) (sB X U s Q) (sE X U s Z) s)
  (h:vn I t c m d Q xs [] (l++fH k af) (sC U))
  (RO:∀D C s' U' acc mC,D∉X.fr->s.heap.objs.size<=D->s.heap.objs.size<=C->D≠C->U' D=af->U' C=af->s'.heap.Ns C mC->(∃ys n,s'.heap.get? D=ae (zY ys n)/\sw U' s'.heap acc ys/\acc.length<=1000000)->At X U' s'->Step W U s U' s'->Q acc (sC U')->RR (.ref D) C (.ok .next) s') :
  aI X.M A (newList []) (λacc s₃=>aI X.M A (newFunctionEnv scope env.globals (tB env.cells scope.names []) [] env.qual af .none (ae env)) (λJX s₄=>
   Hl X.M A (.compStart (.ListComp elt [⟨target,iter,ifs,0⟩] scope pos) 0 it acc { JX with scope:=relabel scope env }) (RR acc JX.locals) s₄) E s₃) E s:=by
 have Kh:∀y∈scope.names,y.2≠.cell:=λy hy e=>by
  obtain⟨x,kd⟩:=y
  rcases CK.kinds x kd hy with h|h|⟨h,_⟩<;>(dsimp only at e;rw[h] at e;cases e)
 refine eE (wpAny_newFunctionEnv Kh (by intro y hy;simp at hy) (λh₁ GK EF=>?_) hk);dsimp only at GK EF ⊢;generalize hH2:s.heap.push { cls:=.type "list",dict:=af,data:=.seq ([]:List aD).toArray }=H2 at GK EF ⊢;generalize hDD:s.heap.objs.size=D;generalize hCC:H2.objs.size=C at GK EF ⊢;have FY:C=D+1:=by rw[<-hCC,<-hH2,hY,hDD]
 have De:∀b o,s.heap.get? b=ae o->h₁.get? b=ae o:=λb o e=>by
  have hb:=ltA e;exact EF.extBut b o (neA (zEa hDD FY hb)) (az _ (hH2▸az _ e))
 have LO:h₁.get? D=ae (zY [] 0):=by
  refine EF.extBut _ _ (neA (zxJ FY)) (az _ ?_);rw[<-hH2,<-hDD];exact aM _ rfl
 have hσ:∀b,D<=b->U b=af:=λb hb=>a.none_of_size (by rw[hDD];exact hb);have Kz:D∉X.fr:=λq=>by
  refine zd3 (a.ff D q) λ_ o _ _ e _=>?_;have:=ltA e;exact zb 0x1c090d00608046 rfl hDD this
 have PO:∀b,D<=b->X.h₀.get? b=af:=λb hb=>by
  cases e:X.h₀.get? b with
  | none=>rfl
  | some o=>have:=ltA (a.keep b o e);lia
 generalize D3:({ s with heap:=h₁,toks:=s.toks+([]:List (b7×aD)).length }:ay)=s1;have Do:s1.heap=h₁:=by rw[<-D3]
 have Km:s1.heap.objs.size=C+1:=by rw[Do,EF.1];simp[hCC]
 have K8:sA U s.heap U s1.heap:=.ext λb o e=>by rw[Do];exact De b o e
 have a1:At X U s1:=by
  refine⟨λb o e=>by rw[Do];exact De b o (a.keep b o e),λb ao e=>(a.rep b ao e).mono K8 λo ho=>by rw[Do];exact De b o ho,a.own,?_,?_,a.ffk λb o e=>by rw[Do];exact De b o e⟩
  .rw[<-D3];exact a.gens
  .rw[<-D3];exact a.os
 have F1:=zqy (X:=X) EO F hl CK (h':=s1.heap) (C:=C) (λb o e=>by rw[Do];exact De b o e) (by rw[Do];exact GK) (hσ C (zp3 FY)) (PO C (zp3 FY));have Eh:St 0 U s1.heap:=IT.stable _ _ _ _ _ CD K8 λb o _ e=>by rw[Do];exact De b o e
 let W':aH->Prop:=λb=>W b\/D<=b
 have st1:Step W' U s U s1:=.same (λb o e _=>by rw[Do];exact De b o e) (by rw[Km,hDD];exact zb 0x243400120a0446 rfl FY);have loop:Hl X.M A (.compLoop (.ListComp elt [⟨target,iter,ifs,0⟩] scope pos) 0 it (.ref D) (cY scope (tB env.cells scope.names []) C env)) (RR (.ref D) C) s1:=by
  refine ze1 (λj s2=>∃i l2 σ2 acc ys n,j=xs.length+1-i/\i<=xs.length/\At X σ2 s2/\FR X (cY scope (tB env.cells scope.names []) C env) D4 l2 σ2 s2.heap/\Step W' U s σ2 s2/\I (sC σ2)/\St i σ2 s2.heap/\
   (∀b,W b->σ2 b=af/\X.h₀.get? b=af)/\σ2 D=af/\s2.heap.get? D=ae (zY ys n)/\sw σ2 s2.heap acc ys/\acc.length<=1000000/\C<s2.heap.objs.size/\vn I t c m d Q (xs.drop i) acc l2 (sC σ2)) ?_ (xs.length+1)
   (zaG 0 _ U [] [] 0 rfl (aE _) a1 F1 st1 hI Eh hW (hσ D (ar _)) (by rw[Do];exact LO) .nil (aE _) (zBy Km) h)
  intro j s2 Da;refine zaz Da λi l2 σ2 acc ys n NZ hi a2 F2 Cy PH Ea IS Jh DG Ft HD QF hf=>?_;subst NZ;have GW:sH W s2.heap:=λb o hb e=>by refine zl (IT.there i _ _ b Ea hb) λo' e' h' _=>?_;rw[e] at e';obtain rfl:=Hz e';exact h'
  have Ji:∀{i U h b o},St i U h->W b->h.get? b=ae o->∀es n,o.data≠.dict es n:=λ{i U h b o} hs hb e=>by
   refine zM (IT.there i _ _ b hs hb) λo' e' _ h1 _=>?_;rw[e] at e';obtain rfl:=Hz e';exact h1
  have dis:∀b,FB (cY scope (tB env.cells scope.names []) C env) b->¬W b:=λb hb hw=>by
   refine zM (IT.there i _ _ b Ea hw) λo' e' _ h1 h2=>?_
   rcases hb with hb|⟨x,hx⟩
   .refine za F2.ns λ_ NU _=>jx NU λo es ep ho hd _=>?_;rw[<-hb,e'] at ho;obtain rfl:=Hz ho;exact h1 _ _ hd
   .refine zca (F2.outc x b hx) λ_ _ v o ho hd=>?_;rw[ho] at e';obtain rfl:=Hz e';exact h2 _ hd
  have Iv:¬W D:=λhw=>by
   refine za (IT.there 0 _ _ D CD hw) λo' e' _=>?_;have:=ltA e';exact zb 0x1c090d00608046 rfl hDD this
  have Rj:¬FB (cY scope (tB env.cells scope.names []) C env) D:=λhb=>by
   rcases hb with h|⟨x,hx⟩
   .have h:D=C:=h;exact zb 0x1c0111921a0046 rfl FY h
   .refine zca (F2.outc x D hx) λ_ _ v o ho hd=>?_;rw[DG] at ho;obtain rfl:=Hz ho;cases hd
  cases hx:xs[i]? with
  | none=>
   have GP:i=xs.length:=fh hi (List.getElem?_eq_none_iff.mp hx);subst GP;refine IT.done σ2 s2 _ _ a2 PH Ea IS λs3 a3 CI=>?_;rw[iU] at hf;refine za ((F2.stepB a2 CI dis GW).ns) λmC QS _=>?_;have Im:s3.heap.get? D=ae (zY ys n):=CI.keep _ _ DG Jh Iv (zcw _ _);have M7:sA σ2 s2.heap σ2 s3.heap:=CI.keepV a2 GW;have IY:Step W' U s σ2 s3:=Cy.trans (CI.weaken λb hb=>.inl hb);have QK:Step W U s σ2 s3:=IY.drop (B:=W) λb hb=>hb.imp id λq=>by rw[hDD];exact q
   exact RO D C s3 σ2 acc mC Kz (zxE hDD) (zCC hDD FY) (zBz FY) Jh F2.out.1 QS (zP ys n Im (Ft.mono M7) HD) a3 QK hf
  | some x=>
   have Cu:i<xs.length:=(List.getElem?_eq_some_iff.mp hx).1;have hd:xs.drop i=x::xs.drop (i+1):=by rw[cn Cu,(List.getElem?_eq_some_iff.mp hx).2]
   rw[hd] at hf;refine za hf λl3 Sc hf=>IT.item i x σ2 s2 _ _ _ (λv s3 hr=>hr) hx a2 PH Ea IS λv s3 rv a3 CI EE=>?_;have F3:=F2.stepB a2 CI dis GW;have Im:s3.heap.get? D=ae (zY ys n):=CI.keep _ _ DG Jh Iv (zcw _ _);have MZ:=Ft.mono (CI.keepV a2 GW);refine ht C d A l2 l3 σ2 s3 x v _ _ L QB a3 F3 rv Sc λs4 F4 a4 CZ=>?_;have Pm:sH (λb=>b=C) s3.heap:=λb o hb e=>F3.noStay b o (.inl hb) e;have L7:s4.heap.get? D=ae (zY ys n):=CZ.keep _ _ Im Jh (by show ¬D=C;exact zxJ FY) (zcw _ _);have OD:=MZ.mono (CZ.keepV a3 Pm);have Iq:St (i+1) σ2 s4.heap:=IT.stable _ _ _ _ _ EE (CZ.keepV a3 Pm) λb o hb e=>CZ.keep b o e (IS b hb).1 (λq=>dis b (.inl q) hb) (Ji EE hb e);refine zit (hc C) L a4 F4 hf λok s5 CE=>zl CE λσ5 a5 DE q5=>?_;have Ob:σ5 D=af:=DE.gone L7 Jh;have F5:=F4.step a4 DE;have Ib:s5.heap.get? D=ae (zY ys n):=DE.keep _ _ L7 Jh id (zcw _ _);have Ks:=OD.mono (DE.keepV0 a4);have Ip:∀b,W b->σ5 b=af/\X.h₀.get? b=af:=λb hb=>⟨by exact za (IT.there _ _ _ b Iq hb) λo ho _=>DE.gone ho (IS b hb).1,(IS b hb).2⟩
   have Fx:St (i+1) σ5 s5.heap:=IT.stable _ _ _ _ _ Iq (DE.keepV0 a4) λb o hb e=>DE.keep b o e (IS b hb).1 id (Ji Iq hb e);have K4:Step W' U s σ5 s5:=Cy.trans ((CI.weaken λb hb=>.inl hb).trans ((CZ.weaken λb hb=>.inr (leA (by have hb:@Eq Nat b C:=hb;exact zc 0x10004111920a0846 rfl FY (by assumption)))).trans (DE.weaken λb hb=>hb.elim)));have OS:C<s5.heap.objs.size:=aS QF (ap CI.size (ap CZ.size DE.size));cases ok with
   | false=>
    simp only[aT,if_false];exact j7 (xs.length+1-(i+1)) (zrY Cu) (i+1) l3 σ5 acc ys n rfl Cu a5 F5 K4 q5.1 Fx Ip Ob Ib Ks HD OS q5.2
   | true=>
    simp only[if_true];refine Hb (hm C _ l3 σ5 s5 _ _ Fx a5 F5 q5) (λy s6 CE=>?_) λ_ _ x=>noX x;refine zd5 CE λav σ6 r6 a6 Fs RJ JW Qg=>?_;have PT:σ6 D=af:=Fs.gone Ib Ob;have F6:=F5.step a5 Fs;have GL:s6.heap.get? D=ae (zY ys n):=Fs.keep _ _ Ib Ob id (zcw _ _);have JI:=Ks.mono (Fs.keepV0 a5);have OF:St (i+1) σ6 s6.heap:=IT.stable _ _ _ _ _ Fx (Fs.keepV0 a5) λb o hb e=>Fs.keep b o e (Ip b hb).1 id (Ji Fx hb e);have Oh:∀b,W b->σ6 b=af/\X.h₀.get? b=af:=λb hb=>⟨by exact za (IT.there _ _ _ b Fx hb) λo ho _=>Fs.gone ho (Ip b hb).1,(IS b hb).2⟩
    refine wpAny_list_append_plain (items:=ys.toArray) ⟨n,GL⟩ (λh7 ⟨n7,hl7⟩ hs7=>?_) (by
     have:=JI.length;rw[Hd];simp;exact zb 0x200000130000111bd0902490d006 rfl JW this)
    have MX:sA σ6 s6.heap σ6 h7:=.mk' λb o e Ru=>by
     have hb:b≠D:=by rintro rfl;rw[GL] at e;obtain rfl:=Hz e;exact zbg _ _ Ru
     exact(hs7.2 b hb).trans e
    have a7:At X σ6 { s6 with heap:=h7 }:=a6.aside (t:=s6.toks) (h':=h7) PT (PO D (ar _)) (λo e=>by rw[GL] at e;obtain rfl:=Hz e;exact zbg _ _) (λq=>absurd q Kz) hs7;have HC:Step (λb=>b=D) σ6 s6 σ6 { s6 with heap:=h7 }:=Step.aside (t:=s6.toks) (h':=h7) rfl hs7;have Mn:sH (λb=>b=D) s6.heap:=λb o hb e=>by subst hb;rw[GL] at e;obtain rfl:=Hz e;exact zbg _ _
    have F7:=F6.stepB a6 HC (λb hb q=>Rj (q▸hb)) Mn;refine j7 (xs.length+1-(i+1)) (zrY Cu) (i+1) l3 σ6 (acc++[av]) (ys++[y]) n7 rfl Cu a7 F7 (K4.trans ((Fs.weaken λb hb=>hb.elim).trans (HC.weaken λb hb=>.inr (leA (by have hb:@Eq Nat b D:=hb;exact zuh (by assumption)))))) RJ (IT.stable _ _ _ _ _ OF MX λb o hb e=>(hs7.2 b λq=>Iv (q▸hb)).trans e) Oh PT ?_ ((JI.mono MX).append (.cons (r6.mono MX) .nil)) (by rw[aq];exact JW) ?_ Qg
    .have:(ys.toArray.push y)=(ys++[y]).toArray:=by simp
     rw[this] at hl7;exact hl7
    .show C<h7.objs.size;rw[hs7.1];exact aS OS Fs.size
 show Hl X.M A (.compStart (.ListComp elt [⟨target,iter,ifs,0⟩] scope pos) 0 it (.ref D) (cY scope (tB env.cells scope.names []) C env)) (RR (.ref D) C) s1;exact codeAny_compStart_list loop (IT.self 0 U s1 _ _ Eh loop)
end
theorem sw.mem(r:sw U h xs vs):∀v∈vs,∃x∈xs,sv U h x v:=by
 induction xs generalizing vs with
 | nil=>obtain rfl:=sw.wG r;intro v hv;cases hv
 | cons y xs ih=>
  obtain⟨_,_,rfl,a,r⟩:=sw.wF r;intro v hv
  rcases List.mem_cons.mp hv with e|hv
  .subst e;exact zf _ aj a
  .obtain⟨x,hx,q⟩:=ih r v hv;exact zf x (al _ hx) q
section
variable{prog:Hk}{w:cV}
def xM(prog:Hk)(w:cV)(h:cI)(n:Nat)(v:aD)(x:Int)(dr:Nat):Prop:=
 ∀(A:bn) (E:aD->ay->Prop) (s:ay) (Q:Int->ay->Prop),s.heap=h->A.units+n<f6->Q x { s with toks:=s.toks+dr }->aI (bq prog w) A (pyHash v) Q E s
inductive t8(prog:Hk)(w:cV)(h:cI)(n:Nat):List aD->List Int->Nat->Prop
 | nil:t8 prog w h n [] [] 0
 | cons {v x dr vs xs drs}:xM prog w h n v x dr->t8 prog w h n vs xs drs->t8 prog w h n (v::vs) (x::xs) (dr+drs)
theorem ziU(x)(t):xM prog w h n (.str x t) (gT w x) 1:=λA E s Q _ _ hq=>wpAny_pyHash_str hq
theorem ziT(x)(t):xM prog w h n (.int x t) (pE x) 1:=λA E s Q _ _ hq=>wpAny_pyHash_int hq
theorem zci(ht:iT h a vs.toArray)(hi:t8 prog w h n vs xs dr):xM prog w h (n+10) (.ref a) (nh (bD xs)) (dr+1):=λA E s Q hs hu hq=>by
 subst hs;refine jJ ht λo ho hc m hd=>?_;have hT:s.TypeIs (.ref a) "tuple":=(zf o ho hc)
 first|unfold pyHashByItsType|skip
 first|refine G9 (wpAny_cRoomFor_or (.inr (zCd hu)) ?_)|skip
 refine G9 (lU hT F.slot_tuple_hash.lookup ?_);rw[if_neg (by rw[beq_builtin_none];exact cT)];refine G9 (lU hT F.slot_tuple_hash.lookup ?_);refine G9 (wpAny_callSpecialIfBoundUnlessNone?_slot hT nM (Hg nM hT F.entry_tuple_hash ?_ (F.args_tuple_hash_1 _)));show aI _ _ (eO (.ref a) >>= _) _ _ s;refine G9 (wpAny_tupleItemsOf ho hd ?_);refine G9 ?_;rw[<-fn];refine Hf _
  (λCC (b:Array Int) s'=>∃(left:List Int) (d1 d2:Nat),xs=b.toList++left/\t8 prog w s.heap n CC left d2/\dr=d1+d2/\s'={ s with toks:=s.toks+d1 })
  _ ?_ ?_ _ _ (jY xs 0 dr rfl hi (by simp) rfl)
 .intro v CC b s' Da;refine zcR Da λleft d1 d2 hx hl IP Nd=>?_;subst Nd;cases hl with
  | @cons _ x0 e1 _ IR e2 h1 NT=>
   refine G9 (h1 _ _ _ _ rfl ?_ ?_)
   .have:∀B:bn,B.units<=A.units+9->B.units+n<f6:=λB hB=>by exact zg 0x9210528088e80018490000a90683a5006 rfl hu hB
    exact this _ (by show A.units+_<=A.units+9;exact zd 0x441448280 rfl)
   first
    | exact Ha (jY IR (d1+e1) e2 (by simp[hx]) NT (zDR IP) (by simp[cJ]))
    | exact G9 (Ha (Ha ⟨IR,d1+e1,e2,by simp[hx],NT,by lia,by simp[cJ]⟩))
 .intro b s' CY;refine zcR CY λleft d1 d2 hx hl IP HV=>?_;subst HV;cases hl;rw[bz] at hx;subst IP;show aI _ _ (retInt (bD b.toList)) _ _ _;rw[<-hx];refine wpAny_ret_mkInt ?_;show aI _ _ (if (decide (-(2:Int) ^ 63<=bD xs)&&decide (bD xs<2 ^ 63))=ag then _ else _) Q E _;unfold nh at hq
  by_cases hr:(decide (-(2:Int) ^ 63<=bD xs)&&decide (bD xs<2 ^ 63))=ag
  .rw[if_pos hr];rw[if_pos hr] at hq;exact Ha (by simpa [cJ] using hq)
  .rw[if_neg hr];rw[if_neg hr] at hq;exact G9 (He (Ha (by simpa [cJ] using hq)))
end
section
variable{prog:Hk}{w:cV}
def yj(prog:Hk)(w:cV)(h:cI)(k:Nat)(v:aD):Prop:=
 ∀(A:bn) (E:aD->ay->Prop) (s:ay) (Q:Bool->ay->Prop),s.heap=h->Q ag s->aI (bq prog w) A (eqIsQuiet k v) Q E s
theorem zh3(hv:carriedByValue v=ag):yj prog w h k v:=λA E s Q _ hq=>by
 rw[eqIsQuiet_byValue _ hv];exact Ha hq
theorem zbH{vs:List aD}(ht:iT h a vs.toArray)(hi:∀v∈vs,yj prog w h k v):yj prog w h (k+1) (.ref a):=λA E s Q hs hq=>by
 subst hs;refine jJ ht λo ho hc m hd=>?_;have hT:s.TypeIs (.ref a) "tuple":=(zf o ho hc)
 unfold eqIsQuiet;refine G9 (lU hT F.slot_tuple_eq.lookup ?_);refine G9 (gm hT isSubtype_tuple_tuple ?_);simp only[iF,aT,if_false];refine G9 (wpAny_seqItems ho hd ?_);refine G9 ?_;rw[<-fn];refine Hf _ (λCC r s'=>r.1=af/\s'=s/\∀v∈CC,yj prog w s.heap k v) _ ?_ ?_ _ _ (zu rfl rfl hi)
 .intro v CC r s' DN;refine jg DN λhr Eg D9=>?_;subst Eg;refine G9 (D9 v aj _ _ _ _ rfl ?_);simp only[iF,aT,if_false];exact Ha (zu rfl rfl (λu RF=>D9 u (al _ RF)))
 .intro DZ;obtain⟨r1,r2⟩:=DZ;intro s' Ez;refine jg Ez λhr Fq _=>?_;subst Fq;simp only at hr;subst hr;exact Ha hq
end
noncomputable def uY(m:zn):eA:=.tuple [.str (zC m.1.toNat),.int m.2]
section
variable{prog:Hk}{w:cV}{U:su}{h:cI}
theorem zhO(r:sv U h (z7 m) v):∃a t u,v = .ref a/\iT h a [rM (zC m.1.toNat) t,.int m.2 u].toArray/\(z7 m=z7 m/\2<=1000000/\m.1.toNat<kW):=by
 refine zj (sv.wI r) λa vs z1 hl ht rs=>zm (sw.wF rs) λv1 us z2 r1 rs=>zm (sw.wF rs) λv2 us2 z3 r2 rs=>za (sv.wL r1) λt z4 hn=>zQ (sv.wC r2) λu z5=>?_;have z6:=sw.wG rs;subst z6 z5 z4 z3 z2;exact⟨a,t,u,z1,ht,rfl,hl,hn⟩
theorem kJ(r:sv U h (z7 m) v):∃a t u,v = .ref a/\iT h a [rM (zC m.1.toNat) t,.int m.2 u].toArray:=
 jx (zhO r) λa t u z ht _=>zaF a t u z ht
theorem zmj(r:sv U h (z7 m) v):xM prog w h 10 v (Ap w m) 3:=by
 refine jK (kJ r) λa t u Iz ht=>?_;subst Iz;exact zci (n:=0) ht (.cons (ziU _ _) (.cons (ziT _ _) .nil))
theorem zjs{m:zn}{v:aD}(r:sv U h (z7 m) v):yj prog w h 7 v:=by
 refine jK (kJ r) λa t u Ja ht=>?_;subst Ja;refine zbH ht λv hv=>zh3 ?_;simp at hv
 rcases hv with rfl|rfl<;>rfl
theorem zjL{ms:List zn}(r:sw U h (ms.map z7) vs):t8 prog w h 10 vs (ms.map (Ap w)) (3*ms.length):=by
 induction ms generalizing vs with
 | nil=>obtain rfl:=sw.wG r;exact .nil
 | cons m ms ih=>
  refine zm (sw.wF r) λ_ _ z1 r0 rs=>?_;subst z1
  .have:=t8.cons (zmj (prog:=prog) (w:=w) r0) (ih rs);have e:3*(m::ms).length=3+3*ms.length:=by simp;exact zd 0x3b2e890500000ec2 rfl
   rw[e];exact this
theorem zfq{vs us:List aD}(h1:iT h a vs.toArray)(h2:iT h a us.toArray):vs=us:=by
 refine jJ h1 λo ho hc n hd=>jJ h2 λo' CM hc' n' DC=>?_;rw[ho] at CM;obtain rfl:=Hz CM;rw[hd] at DC;injection DC with e;simpa using e
theorem zoX(r:sv U h (z7 m) v):sv U' h (z7 m) v:=by
 refine jx (zhO r) λa t u z ht q=>?_;subst z;exact .tup q.2.1 ht (.cons (.str q.2.2 t) (.cons (.int _ u) .nil))
theorem zmk{ms:List zn}(r:sw U h (ms.map z7) vs):sw U' h (ms.map z7) vs:=by
 induction ms generalizing vs with
 | nil=>obtain rfl:=sw.wG r;exact .nil
 | cons m ms ih=>refine zm (sw.wF r) λ_ _ z1 r0 rs=>?_;subst z1;exact .cons (zoX r0) (ih rs)
theorem zcE(r:sv U h (zE ms) v):sv U' h (zE ms) v:=by
 refine zj (sv.wI r) λ_ _ FG hl ht rs=>?_;subst FG;exact .tup hl ht (zmk rs)
theorem zoY(r:sv U h (z7 m) v)(r':sv U h (z7 m') v):m=m':=by
 refine jK (kJ r) λa t u Ko ht=>?_;subst Ko;refine jK (kJ r') λa' t' u' e Lh=>?_;cases e;have:=zfq ht Lh;simp at this;exact mh (side_inj.mp this.1.1) this.2.1
theorem zpv{xs ys:List zn}(r:sw U h (xs.map z7) vs)(r':sw U h (ys.map z7) vs):xs=ys:=by
 induction xs generalizing ys vs with
 | nil=>obtain rfl:=sw.wG r;cases ys with|nil=>rfl|cons _ _=>exact zm (sw.wF r') λ_ _ z _ _=>nomatch z
 | cons x xs ih=>
  refine zm (sw.wF r) λ_ _ z1 r0 rs=>?_;subst z1
  .cases ys with|nil=>exact nomatch sw.wG r'|cons y ys=>refine zm (sw.wF r') λ_ _ z1 r' DS=>?_;obtain⟨rfl,rfl⟩:=rq z1;rw[zoY r0 r',ih rs DS]
theorem jH(r:sv U h (zE ms) v):∃a vs,v = .ref a/\iT h a vs.toArray/\sw U h (ms.map z7) vs:=by
 refine zj (sv.wI r) λa vs E1 hl ht rs=>?_;subst E1;exact zP a vs rfl ht rs
theorem zjt(r:sv U h (z7 m) v):lV h v (uY m) []:=by
 refine zhe (kJ r) λa t u FP o ho hc n hd=>?_;subst FP;exact .tuple ho hc hd (.cons (.str _ _) (.cons (.int _ _) .nil))
theorem zhR{ms:List zn}(r:sw U h (ms.map z7) vs):fJ h vs (ms.map uY) []:=by
 induction ms generalizing vs with
 | nil=>obtain rfl:=sw.wG r;exact .nil
 | cons m ms ih=>refine zm (sw.wF r) λ_ _ z1 r0 rs=>?_;subst z1;exact ReadsAll.cons (as:=[]) (bs:=[]) (zjt r0) (ih rs)
theorem zfF(r:sv U h (zE ms) v):lV h v (.tuple (ms.map uY)) []:=by
 refine zm (jH r) λa vs JY Ls rs=>?_;subst JY;exact jJ Ls λo ho hc n hd=>.tuple ho hc hd (zhR rs)
theorem zrf(m m'):aU (uY m) (uY m')=decide (m=m'):=by
 obtain⟨a,b⟩:=m;obtain⟨c,d⟩:=m';simp[uY,aU,bP,Prod.ext_iff]
 by_cases h1:a=c<;>by_cases h2:b=d<;>simp[h1,h2,side_inj]
theorem zrt(xs ys:List zn):bP (xs.map uY) (ys.map uY)=decide (xs=ys):=by
 induction xs generalizing ys with
 | nil=>cases ys with|nil=>rfl|cons y ys=>simp[bP]
 | cons x xs ih=>cases ys with
  | nil=>simp[bP]
  | cons y ys=>
   simp only[aY,bP,zrf,ih,po]
   by_cases h1:x=y<;>by_cases h2:xs=ys<;>simp[h1,h2]
theorem zk4(ms:List zn):cL (ms.map uY)=ag/\bf (ms.map uY)<=5:=by
 induction ms with
 | nil=>exact⟨rfl,aE _⟩
 | cons m ms ih=>
  have h1:nI (zC m.1.toNat)=ag:=zio (zgF _);refine⟨by simp[cL,uY,bU,h1,ih.1],?_⟩;exact Nat.max_le.mpr ⟨ba rfl,ih.2⟩
end
noncomputable def ztC:su:=λ_=>af
noncomputable def wd(prog:Hk)(w:cV):HeapKind prog w (List zn) where
 is:=λh ms a=>sv ztC h (zE ms) (.ref a)
 hash:=Bs w
 draws:=λms=>3*ms.length+1
 room:=λA=>A.units+100<f6
 inj:=λhx hy=>by
  refine zm (jH hx) λa vs e ht rs=>zm (jH hy) λa' Jw e' Lh DS=>?_;cases e;cases e';have:=zfq ht Lh;subst this;exact zpv rs DS
 keeps:=λx ho hd hs=>x.mono (.mk' λb o e st=>by
  refine(hs.2 b ?_).trans e;rintro rfl;rw[ho] at e;obtain rfl:=Hz e;exact zbf hd st)
 pyHash:=λhu hk hq=>by
  refine zm (jH hk) λa vs e ht rs=>?_;cases e;exact zci (n:=10) ht (zjL rs) _ _ _ _ rfl (zA0 hu) hq
 eqBool:=λhu hx hy hq=>by
  rename_i k1 k2 _ _ _
  have l1:=zk4 k1;have l2:=zk4 k2;refine lD _ _ _ _ _ _ _ _ (zfF hx) (zfF hy) (by simpa [bU] using l1.1) (by simpa [bU] using l2.1) ?_ _ _ _ _ ?_
  .have:=l1.2;have:=l2.2;show _+fk (bf _+1) (bf _+1)<_
   lia
  .simp only[aU,zrt];exact hq
 quiet:=λhk hq=>by
  refine zm (jH hk) λa vs e ht rs=>?_;cases e;refine zbH (k:=7) ht (λv hv=>?_) _ _ _ _ rfl hq;refine za (rs.mem v hv) λx hx rx=>za (List.mem_map.mp hx) λm _ DM=>?_;subst DM;exact zjs rx
abbrev sP:=List (List zn×AV)
noncomputable def sP.at(kvs:sP)(k:List zn):Option AV:=(kvs.find? λx=>decide (x.1=k)).map (·.2)
noncomputable def sP.put(kvs:sP)(k:List zn)(v:AV):sP:=if (kvs.at k).isSome then kvs.map (λx=>if x.1=k then (x.1,v) else x) else kvs++[(k,v)]
inductive TX(U:su)(h:cI):List (List zn×aH×aD)->sP->Prop
 | nil:TX U h [] []
 | cons {k:List zn} {a:aH} {v:aD} {x:AV} {xs kvs}:sv U h (zE k) (.ref a)->sv U h x v->TX U h xs kvs->TX U h ((k,a,v)::xs) ((k,x)::kvs)
section
variable{prog:Hk}{w:cV}{U U':su}{h h':cI}
theorem TX.keys(t:TX U h xs kvs):xs.map (·.1)=kvs.map (·.1):=by
 induction t with
 | nil=>rfl
 | cons _ _ _ ih=>rw[aY,aY,ih]
theorem TX.length(t:TX U h xs kvs):xs.length=kvs.length:=by
 have:=congrArg dH t.keys;rwa [am,am] at this
theorem TX.mono(k:sA U h U' h')(t:TX U h xs kvs):TX U' h' xs kvs:=by
 induction t with
 | nil=>exact .nil
 | cons a b _ ih=>exact .cons (a.mono k) (b.mono k) ih
theorem TX.of(t:tS w U h kvs es):∃xs,TX U h xs kvs/\es=xs.map (pP (wd prog w)):=by
 induction t with
 | nil=>exact⟨[],.nil,rfl⟩
 | @cons k x r e es a b c _ ih=>
  refine za ih λxs h1 h2=>zm (jH a) λad vs ea _ _=>?_;obtain⟨eh,ek,ev⟩:=e;simp only at ea a b c;subst ea;exact zf ((k,ad,ev)::xs) (.cons a b h1) (by rw[h2,aY];congr 1;simp only[pP];rw[c];rfl)
theorem TX.to(t:TX U h xs kvs):tS w U h kvs (xs.map (pP (wd prog w))):=by
 induction t with
 | nil=>exact .nil
 | cons a b _ ih=>exact .cons a b rfl ih
theorem TX.at_(t:TX U h xs kvs):(atKey xs k=af/\sP.at kvs k=af)\/∃p x,atKey xs k=ae p/\sP.at kvs k=ae x/\sv U h x p.2:=by
 induction t with
 | nil=>exact .inl ⟨rfl,rfl⟩
 | @cons k' a v x xs kvs ra rb r ih=>
  unfold atKey sP.at at ih ⊢
  by_cases hk:k'=k
  .refine .inr (zP (a,v) x ?_ ?_ rb)<;>rw[cg,H3 hk]<;>rfl
  .rw[cg,cg,H0 hk];exact ih
theorem TX.snoc(ra:sv U h (zE k) (.ref a))(rb:sv U h x v)(t:TX U h xs kvs):TX U h (xs++[(k,a,v)]) (kvs++[(k,x)]):=by
 induction t with
 | nil=>exact .cons ra rb .nil
 | cons p q _ ih=>exact .cons p q ih
theorem TX.over(rb:sv U h x v)(t:TX U h xs kvs):TX U h (xs.map (putAt k v)) (kvs.map λy=>if y.1=k then (y.1,x) else y):=by
 induction t with
 | nil=>exact .nil
 | @cons k' a' v' _ xs kvs p q r ih=>
  rw[aY,aY];unfold putAt at ih ⊢
  by_cases hk:k'=k
  .rw[if_pos hk,if_pos hk];exact .cons p rb ih
  .rw[if_neg hk,if_neg hk];exact .cons p q ih
theorem TX.put(ra:sv U h (zE k) (.ref a))(rb:sv U h x v){xs kvs}(t:TX U h xs kvs):TX U h (storedH xs k a v) (sP.put kvs k x):=by
 unfold sP.put
 rcases t.at_ (k:=k) with⟨h1,h2⟩|⟨p,y,h1,h2,_⟩
 .rw[storedH_new h1,h2];exact t.snoc ra rb
 .rw[storedH_old h1,h2];exact t.over rb
end
section
variable{X:Cx}{U:su}{s:ay}{d:aH}{kvs:sP}
theorem At.tab(a:At X U s)(e:U d=ae (.tdict kvs)):∃xs,s.heap.DictOfH (wd X.prog X.w) d xs/\TX U s.heap xs kvs:=by
 refine zv (a.rep _ _ e) λes n ho rt nd hl _=>za (TX.of (prog:=X.prog) rt) λxs h1 h2=>zf xs (k8 _ es n ho (zu rfl rfl rfl) rfl h2 (λx hx=>?_) (by rw[h1.keys];exact nd)) h1;clear nd hl ho e;clear h2 rt
 induction h1 with
 | nil=>cases hx
 | cons ra rb r ih=>
  rcases List.mem_cons.mp hx with rfl|hx
  .exact zcE ra
  .exact ih hx
theorem At.tabNe(a:At X U s)(e:U d=ae (.tdict kvs)):(d==dS)=ai:=by
 exact zv (a.rep _ _ e) λes n ho rt nd hl h=>h
theorem sP.wY(kvs:sP)(k)(v):(kvs.put k v).length<=kvs.length+1:=by
 unfold sP.put;split<;>simp
theorem zir{h':cI}{xs:List (List zn×aH×aD)}{k:List zn}{ad:aH}{x:AV}{v:aD}(a:At X U s)(e:U d=ae (.tdict kvs))(tx:TX U s.heap xs kvs)(rk:sv U s.heap (zE k) (.ref ad))(rv:sv U s.heap x v)(hl:kvs.length<1000000){U':su}(kv:sA U s.heap U' h')
  (Ex:h'.DictOfH (wd X.prog X.w) d (storedH xs k ad v)):tH X U' h' d (.tdict (kvs.put k x)):=by
 refine ja Ex λo es ep ho Oy hd he hi hn=>?_;obtain⟨hc1,Ep,hc3⟩:=Oy;have OU:=(tx.mono kv).put (rk.mono kv) (rv.mono kv);refine jh es ep ?_ ?_ ?_ ?_ (a.tabNe e)
 .rw[ho];obtain⟨c,di,da,sl⟩:=o;simp only at hc1 Ep hc3 hd;subst hc1;subst Ep;subst hc3;subst hd;rfl
 .rw[he];exact OU.to
 .rw[<-OU.keys];exact hn
 .have:=sP.wY kvs k x;lia
theorem zpP(tx:TX U s.heap xs kvs)(k):(atKey xs k).isSome=(kvs.at k).isSome:=by
 rcases tx.at_ (k:=k) with⟨h1,h2⟩|⟨p,y,h1,h2,_⟩<;>rw[h1,h2]<;>rfl
variable{A:bn}{E:aD->ay->Prop}{dp:Dp}{Q:zt}{k:List zn}{u:aD}
theorem zrG(L:sK X dp A)(a:At X U s)(e:U d=ae (.tdict kvs))(rk:sv U s.heap (zE k) u)(rv:sv U s.heap x v)(hl:kvs.length<1000000)
  (q:∀s',At X (U.set d (.tdict (kvs.put k x))) s'->Step E0 U s (U.set d (.tdict (kvs.put k x))) s'->R () s'):aI X.M A (pG (.ref d) u v) R E s:=by
 refine zm (jH rk) λad vs FG _ _=>?_;subst FG;refine za (a.tab e) λxs hD tx=>?_;have room:=L.room;refine wpAny_setItem_heap (knd:=wd X.prog X.w) (by show A.units+1+100<f6;exact zt8 room) (zcE rk) hD (λh' Ex hs=>?_) (by rw[tx.length,Hd];exact zd 0x20000013003d09024905006 rfl hl);refine q _ (a.store (t:=_) (ao:=.tdict (kvs.put k x)) e rfl hs λkv=>?_) (Step.store (t:=_) e rfl hs);exact zir a e tx rk rv hl kv Ex
theorem zrF(L:sK X dp A)(a:At X U s)(e:U d=ae (.tdict kvs))(rk:sv U s.heap (zE k) u)(rv:sv U s.heap x v)(hl:kvs.length<1000000)
  (q:∀s',At X (U.set d (.tdict (kvs.put k x))) s'->Step E0 U s (U.set d (.tdict (kvs.put k x))) s'->R () s'):aI X.M A (dictSet d u v) R E s:=by
 refine zm (jH rk) λad vs D6 _ _=>?_;subst D6;refine za (a.tab e) λxs hD tx=>?_;have room:=L.room;refine wpAny_dictSet_heap (knd:=wd X.prog X.w) (by show A.units+100<f6;exact zb 0x52000c92052800a402ee240a5006 rfl room) (zcE rk) hD (λh' Ex hs=>?_) (by rw[tx.length,Hd];exact zd 0x20000013003d09024905006 rfl hl);refine q _ (a.store (t:=_) (ao:=.tdict (kvs.put k x)) e rfl hs λkv=>?_) (Step.store (t:=_) e rfl hs);exact zir a e tx rk rv hl kv Ex
theorem ztW(L:sK X dp A)(a:At X U s)(e:U d=ae (.tdict kvs))(rk:sv U s.heap (zE k) u)(q:Q (.bool (kvs.at k).isSome) (sC U)):aI X.M A (dq .In u (.ref d)) (sB X U s Q) E s:=by
 refine zm (jH rk) λad vs FF _ _=>?_;subst FF;refine za (a.tab e) λxs hD tx=>?_;have room:=L.room;refine wpAny_in_heap (knd:=wd X.prog X.w) (by show A.units+1+100<f6;exact zt8 room) (zcE rk) (a.tabNe e) hD ?_;rw[zpP tx];exact zaj a (.bool _) q
theorem zrE(L:sK X dp A)(a:At X U s)(e:U d=ae (.tdict kvs))(rk:sv U s.heap (zE k) u)(hx:kvs.at k=ae x)(q:Q x (sC U)):aI X.M A (pH (.ref d) u) (sB X U s Q) E s:=by
 refine zm (jH rk) λad vs KU _ _=>?_;subst KU;refine za (a.tab e) λxs hD tx=>?_;have room:=L.room
 rcases tx.at_ (k:=k) with⟨_,h2⟩|⟨p,y,h1,h2,r⟩
 .rw[hx] at h2;exact absurd h2 (aA _)
 .rw[hx] at h2;obtain rfl:=Hz h2;exact wpAny_getItem_heap (knd:=wd X.prog X.w) (by show A.units+1+100<f6;exact zt8 room) (zcE rk) hD h1 (zaj a r q)
end
noncomputable def kF(fs:List (Nat×AV))(k:Nat):Option AV:=match fs with|[]=>af|p::r=>bif ch p.1 k then ae p.2 else kF r k
noncomputable def jl(fs:List (Nat×AV))(k:Nat)(v:AV):List (Nat×AV):=match fs with|[]=>[(k,v)]|p::r=>bif ch p.1 k then (k,v)::r else p::jl r k v
theorem zo5:ch a b=decide (a=b):=by
 cases h:ch a b with
 | true=>exact(H3 (Nat.eq_of_beq_eq_true h)).symm
 | false=>exact(H0 (Nat.ne_of_beq_eq_false h)).symm
theorem znZ(p)(r)(k)(v):jl (p::r) k v=bif ch p.1 k then (k,v)::r else p::jl r k v:=rfl
theorem zdb(fs)(k)(v):(jl fs k v).length<=fs.length+1:=by
 induction fs with
 | nil=>exact ar _
 | cons p r ih=>
  show (bif ch p.1 k then (k,v)::r else p::jl r k v).length<=_;cases ch p.1 k with
  | true=>exact cG _
  | false=>exact b6 ih
section
variable{X:Cx}{U:su}{s:ay}{h:cI}{d:aH}{fs:List (Nat×AV)}{kvs:List (b7×aD)}
theorem SX.get(t:SX U h kvs fs)(hk:k<kW):(gU kvs (zC k)=af/\kF fs k=af)\/∃v x,gU kvs (zC k)=ae v/\kF fs k=ae x/\sv U h x v:=by
 induction t with
 | nil=>exact .inl ⟨rfl,rfl⟩
 | @cons k' x v kvs fs CO r t ih=>
  unfold gU at ih ⊢;rw[cg,show kF ((k',x)::fs) k=(bif ch k' k then ae x else kF fs k) from rfl,zo5]
  by_cases e:k'=k
  .subst e;rw[H3 rfl,H3 rfl];exact .inr (zP v x rfl rfl r)
  .have e':¬zC k'=zC k:=λq=>e (ko CO hk q);rw[H0 e',H0 e];exact ih
theorem SX.keys(t:SX U h kvs fs):kvs.map (·.1)=fs.map λf=>zC f.1:=by
 induction t with
 | nil=>rfl
 | cons _ _ _ ih=>rw[aY,aY,ih]
theorem SX.length(t:SX U h kvs fs):kvs.length=fs.length:=by
 have:=congrArg dH t.keys;rwa [am,am] at this
theorem zqe:kvs.any (λkv=>decide (kv.1=k))=decide (k∈kvs.map (·.1)):=by
 rw[pq,List.any_eq_true,decide_eq_true_eq,fM];exact⟨λ⟨p,h1,h2⟩=>(zf p h1 (H4 h2)),λ⟨p,h1,h2⟩=>(zf p h1 (H3 h2))⟩
theorem SX.put(t:SX U h kvs fs)(nd:(kvs.map (·.1)).Nodup)(hk:k<kW)(r:sv U h x v):SX U h (mj kvs (zC k) v) (jl fs k x):=by
 have go:∀{kvs:List (b7×aD)} {fs:List (Nat×AV)},SX U h kvs fs->(kvs.map (·.1)).Nodup->(zC k∈kvs.map (·.1)->SX U h (kvs.map λkv=>if kv.1=zC k then (kv.1,v) else kv) (jl fs k x))/\(zC k∉kvs.map (·.1)->SX U h (kvs++[(zC k,v)]) (jl fs k x)):=by
  intro kvs fs t
  induction t with
  | nil=>intro _;exact⟨λh=>(nomatch h),λ_=>.cons hk r .nil⟩
  | @cons k' x' v' kvs fs CO r' t ih=>
   intro nd;rw[aY] at nd;have ES:=List.nodup_cons.mp nd;have Lm:=ih ES.2;rw[aY,aY];rw[znZ,zo5]
   by_cases e:k'=k
   .subst e;rw[H3 rfl];refine⟨λ_=>?_,λhn=>absurd aj hn⟩;rw[if_pos rfl,map_store_of_not_mem kvs _ v ES.1];exact .cons hk r t
   .have e':¬zC k'=zC k:=λq=>e (ko CO hk q);rw[H0 e];rw[if_neg e'];refine⟨λhm=>.cons CO r' (Lm.1 ?_),λhn=>.cons CO r' (Lm.2 λq=>hn (al _ q))⟩
    rcases List.mem_cons.mp hm with q|q
    .exact absurd q.symm e'
    .exact q
 unfold mj;rw[zqe]
 by_cases hm:zC k∈kvs.map (·.1)
 .rw[H3 hm,if_pos rfl];exact(go t nd).1 hm
 .rw[H0 hm,if_neg cT];exact(go t nd).2 hm
theorem zd0(hD:h.DictOf (strKind X.prog X.w) d kvs):(kvs.map (·.1)).Nodup:=by exact ja hD λ_ _ _ _ _ _ _ _ n=>n
theorem zeg(n)(t):(strKind X.prog X.w).is (zC n) (.str (zC n) t)=ag:=pQ _ _ _ _
theorem zmq(h:aI X.M A (dq .In key c) P E s)(k:∀t s',P (.bool t) s'->R (.bool (!t)) s'):aI X.M A (dq .NotIn key c) R E s:=by
 have h:aI X.M A (do return .bool (<-contains c key)) P E s:=h;refine G9 (λΓ p hΓ=>?_);have:=h Γ p hΓ;rw[Sem.wp_bind'] at this;exact Sem.wp_mono X.M Γ _ (λt _ s' x=>Ha (k t s' (by simpa using x))) (λ_ _ _ x=>x) p s this
variable{A:bn}{E:aD->ay->Prop}{Q:zt}{k:Nat}{u v:aD}{x:AV}
theorem zvE(a:At X U s)(e:U d=ae (.idict fs))(rk:sv U s.heap (.str k) u)(q:Q (.bool (kF fs k).isSome) (sC U)):aI X.M A (dq .In u (.ref d)) (sB X U s Q) E s:=by
 refine zM (a.rep _ _ e) λkvs hD sx hl hs=>za (sv.wL rk) λt Nj hn=>?_;subst Nj;refine wpAny_in_of (zeg k t) hs hD.mapOf ?_
 rcases sx.get hn with⟨h1,h2⟩|⟨v,x,h1,h2,_⟩<;>rw[h1]<;>rw[h2] at q<;>exact zaj a (.bool _) q
theorem ztO(a:At X U s)(e:U d=ae (.idict fs))(rk:sv U s.heap (.str k) u)(hx:kF fs k=ae x)(q:Q x (sC U)):aI X.M A (pH (.ref d) u) (sB X U s Q) E s:=by
 refine zM (a.rep _ _ e) λkvs hD sx hl hs=>za (sv.wL rk) λt Eg hn=>?_;subst Eg
 rcases sx.get hn with⟨h1,h2⟩|⟨v,y,h1,h2,r⟩
 .rw[hx] at h2;exact absurd h2 (aA _)
 .rw[hx] at h2;obtain rfl:=Hz h2;exact oG (zeg k t) hD.mapOf h1 (zaj a r q)
theorem zgC(a:At X U s)(e:U d=ae (.idict fs))(hk:k<kW)(rv:sv U s.heap x v)(hD:s.heap.DictOf (strKind X.prog X.w) d kvs)(sx:SX U s.heap kvs fs)(hl:fs.length<100)(kv:sA U s.heap U' h')
  (Ex:h'.DictOf (strKind X.prog X.w) d (mj kvs (zC k) v)):tH X U' h' d (.idict (jl fs k x)):=by
 exact zM (a.rep _ _ e) λ_ _ _ _ hs=>qJ _ Ex ((sx.mono kv).put (zd0 hD) hk (rv.mono kv)) (by have:=zdb fs k x;exact zb 0x3248004868001800192490d006 rfl hl this) hs
theorem ztQ(a:At X U s)(e:U d=ae (.idict fs))(rk:sv U s.heap (.str k) u)(rv:sv U s.heap x v)(hl:fs.length<100)
  (q:∀s',At X (U.set d (.idict (jl fs k x))) s'->Step E0 U s (U.set d (.idict (jl fs k x))) s'->R () s'):aI X.M A (pG (.ref d) u v) R E s:=by
 refine zM (a.rep _ _ e) λkvs hD sx _ hs=>za (sv.wL rk) λt Dy hn=>?_;subst Dy;refine wpAny_setItem_pairs (zeg k t) hD (λh' Ex Cz=>?_) (by rw[sx.length,Hd];exact zd 0x20000013000001924905006 rfl hl);exact q _ (a.store (t:=_) e rfl Cz λkv=>zgC a e hn rv hD sx hl kv Ex) (Step.store (t:=_) e rfl Cz)
theorem ztP(a:At X U s)(e:U d=ae (.idict fs))(rk:sv U s.heap (.str k) u)(rv:sv U s.heap x v)(hl:fs.length<100)
  (q:∀s',At X (U.set d (.idict (jl fs k x))) s'->Step E0 U s (U.set d (.idict (jl fs k x))) s'->R () s'):aI X.M A (dictSet d u v) R E s:=by
 refine zM (a.rep _ _ e) λkvs hD sx _ hs=>za (sv.wL rk) λt FD hn=>?_;subst FD;exact mO (hsz:=by rw[sx.length,Hd];exact zd 0x20000013000001924905006 rfl hl) (zeg k t) hD λh' Ex Cz=>q _ (a.store (t:=_) e rfl Cz λkv=>zgC a e hn rv hD sx hl kv Ex) (Step.store (t:=_) e rfl Cz)
end
structure sX(X:Cx)(U:su)(g:cI)(x:aH)(h:cI):Prop where
 keepS:∀b o,g.get? b=ae o->b≠x->∃sl,h.get? b=ae { o with slots:=sl }
 keepX:∀b o,g.get? b=ae o->b≠x->((∀es n,o.data≠.dict es n)\/U b≠af\/X.h₀.get? b≠af)->h.get? b=ae o
 size:g.objs.size<=h.objs.size
def u0(g h:cI)(x c:aH)(fl:aD):Prop:=∃vs T tc ts,h.get? x=ae (ua c vs)/\vs[1]? = ae (.ref T)/\T≠x/\g.get? T=af/\h.get? T=ae { cls:=tc,dict:=af,data:=.fields ts,slots:=#[] }/\ts[3]? = ae fl
structure vi(X:Cx)(U:su)(g:cI)(x c:aH):Prop where
 fr:∀L∈X.fr,U L=af/\vq g L/\X.h₀.get? L=af
 exg:∃vs,g.get? x=ae (ua c vs)
section
variable{X:Cx}{U:su}{g h h':cI}{x c:aH}
theorem vi.ne(F:vi X U g x c)(hL:L∈X.fr):L≠x:=by
 rintro rfl;refine jK ((F.fr L hL).2.1) λo es n h1 h2=>?_;obtain⟨vs,h3⟩:=F.exg;rw[h1] at h3;obtain rfl:=Hz h3;cases h2
theorem sX.dict(f:sX X U g x h)(F:vi X U g x c)(hL:L∈X.fr):vq h L:=by
 refine jK ((F.fr L hL).2.1) λo es n h1 h2=>?_;obtain⟨sl,h3⟩:=f.keepS L o h1 (F.ne hL);exact zaF _ es n h3 h2
theorem sX.frames(f:sX X U g x h)(F:vi X U g x c)(hb:∀L∈X.fr,base.get? L=af)(FO:∀e∈envs,e.scope.kind≠.module/\∃L,e.frame=ae L/\L∈X.fr):h.FunFrames base envs:=by
 induction envs with
 | nil=>trivial
 | cons e r ih=>
  exact qT (FO e aj) λh1 L h2 h3=>jK (f.dict F h3) λo es n h4 h5=>zu h1 (zq L o h2 (hb L h3) h4 (λvs q=>by rw[h5] at q;cases q)) (ih λe he=>FO e (al _ he))
theorem sX.next(f:sX X U g x h)(F:vi X U g x c)(k:∀b o,h.get? b=ae o->b∉X.fr->b≠x->g.get? b≠af->h'.get? b=ae o)(k4:∀b o,b∈X.fr->h.get? b=ae o->∃sl,h'.get? b=ae { o with slots:=sl })(hz:h.objs.size<=h'.objs.size):sX X U g x h':=by
 refine⟨λb o e hb=>?_,λb o e hb hc=>?_,ap f.size hz⟩
 .obtain⟨sl,h1⟩:=f.keepS b o e hb
  by_cases hf:b∈X.fr
  .obtain⟨sl',h2⟩:=k4 b _ hf h1;exact⟨sl',h2⟩
  .exact⟨sl,k b _ h1 hf hb (by rw[e];exact λq=>nomatch q)⟩
 .refine k b o (f.keepX b o e hb hc) (λq=>?_) hb (by rw[e];exact λq=>nomatch q);refine jg (F.fr b q) λh1 J7 h4=>?_;obtain⟨o',es,n,h2,h3⟩:=J7;rw[e] at h2;obtain rfl:=Hz h2
  rcases hc with hc|hc|hc
  .exact hc es n h3
  .exact hc h1
  .exact hc h4
end
section
variable{prog:Hk}{w:cV}{A:bn}{E:aD->ay->Prop}{s:ay}{X:Cx}{U:su}{g:cI}{x c L:aH}{env:fB}{CV:List fB}{Q:Unit->ay->Prop}
theorem tr.b(f:tr X U g x c h):sX X U g x h:=⟨f.keepS,f.keepX,f.size⟩
theorem ziQ(FO:uL X (env::CV))(a:At X U { s with heap:=g })(f:tr X U g x c h):vi X U g x c:=⟨λL hL=>(zu ((a.ff L hL).1) ((a.ff L hL).2) (FO.out L hL)),f.exg⟩
theorem u0.fly(f:sX X U g x h)(F:vi X U g x c)(t:u0 g h x c .none):tr X U g x c h:=by
 exact jX t λvs T tc ts h1 h5 h6 h7 h8 Jn=>⟨f.keepS,f.keepX,F.exg,f.size,vs,h1,.inr (zK T tc ts h5 h6 h7 h8 Jn)⟩
theorem sX.entry(FO:uL X (env::CV))(Ds:A.frames=ae (env::CV))(hf:env.frame=ae L)(F:vi X U g x c)(f:sX X U g x s.heap)(he:s.heap.get? x=ae (ua c vs))(h1:1<vs.size)
  (hQ:∀h',sX X U g x h'->u0 g h' x c (rY L)->Q () { s with heap:=h' }) :
  aI (bq prog w) A (do let a <-frameOf env;let pl <-entryPlaceOf L hadNext;let b <-EntryCells.newEntry head a .none (rY L) .none pl;setField (.ref x) 1 b) Q E s:=by
 refine G9 (wpAny_frameOf_fun (base:=hideAll s.heap X.fr) Ds (f.frames F (λL hL=>hideAll_none _ hL) FO.is) hf λh₁ Mo=>?_);have sub:∀b,b∈(env::CV).filterMap (·.frame)->b∈X.fr:=λb hb=>by
  refine za (List.mem_filterMap.mp hb) λe he hb=>qT (FO.is e he) λ_ M h2 h3=>?_;rw[h2] at hb;obtain rfl:=Hz hb;exact h3
 have f1:sX X U g x h₁:=f.next F (λb o e hb _ _=>(Mo.2.1 b λq=>hb (sub b q)).trans e) (λb o _ e=>Mo.2.2 b o e) (bp Mo.1.symm);have PM:h₁.get? x=ae (ua c vs):=(Mo.2.1 x λq=>F.ne (sub x q) rfl).trans he;refine G9 (wpAny_entryPlaceOf λpl ID=>?_);refine G9 (eE ?_ (ID.sizeOk5 _ _ _ _ _));have Pu:h₁.objs.size≠x:=eW (aO PM);refine hZ (az _ PM) h1 λh' e' sb=>hQ h' ?_ ?_
 .refine f1.next F (λb o e _ hb _=>(sb.2 b hb).trans (az _ e)) (λb o hb e=>⟨o.slots,(sb.2 b (F.ne hb)).trans (az _ e)⟩) ?_;rw[sb.1,hY];exact cG _
 .refine qt _ h₁.objs.size _ _ e' (by simp[h1]) Pu ?_ ((sb.2 _ Pu).trans (aM _ rfl)) rfl;cases q:g.get? h₁.objs.size with|none=>rfl|some o=>exact absurd (aO q) (Nat.not_lt.mpr f1.size)
theorem tr.note(FO:uL X (env::CV))(Ds:A.frames=ae (env::CV))(hf:env.frame=ae L)(a:At X U { s with heap:=g })(f:tr X U g x c s.heap)(hQ:∀h',sX X U g x h'->u0 g h' x c (rY L)->Q () { s with heap:=h' }):aI (bq prog w) A (rL (.ref x) env) Q E s:=by
 have F:=ziQ FO a f;refine za f.exh λvs h1 h5=>?_;unfold rL;simp only[hf]
 rcases h5 with h5|⟨T,tc,ts,h5,h6,h7,h8,Jn⟩
 .refine G9 (ml h1 rfl h5 ?_);rw[if_neg (by decide)];exact f.b.entry FO Ds hf F h1 (Array.getElem?_eq_some_iff.mp h5).1 hQ
 .refine G9 (ml h1 rfl h5 ?_);refine G9 (ml h8 rfl Jn ?_);refine G9 (hZ h8 (Array.getElem?_eq_some_iff.mp Jn).1 λh' e' sb=>?_);have hT:∀b,g.get? b≠af->b≠T:=λb hb q=>hb (q▸h7);have f':sX X U g x h':=f.b.next F (λb o e _ _ hg=>(sb.2 b (hT b hg)).trans e) (λb o hb e=>⟨o.slots,(sb.2 b (hT b (by refine jK ((F.fr b hb).2.1) λo _ _ h _=>?_;rw[h];exact λq=>nomatch q))).trans e⟩) (bp sb.1.symm);exact sX.entry (s:={ s with heap:=h' }) FO Ds hf F f' ((sb.2 x h6.symm).trans h1) (Array.getElem?_eq_some_iff.mp h5).1 hQ
theorem sX.vD(F:vi X U g x c)(f:sX X U g x s.heap)(t:u0 g s.heap x c fl)(hQ:∀h',tr X U g x c h'->u0 g h' x c .none->Q () { s with heap:=h' }):aI (bq prog w) A (setFlight (.ref x) af) Q E s:=by
 refine jX t λvs T tc ts h1 h5 h6 h7 h8 Jn=>?_;have h3:3<ts.size:=(Array.getElem?_eq_some_iff.mp Jn).1;refine G9 (ml h1 rfl h5 ?_);refine hZ h8 h3 λh' e' sb=>?_;have hT:∀b,g.get? b≠af->b≠T:=λb hb q=>hb (q▸h7);have f':sX X U g x h':=f.next F (λb o e _ _ hg=>(sb.2 b (hT b hg)).trans e) (λb o hb e=>⟨o.slots,(sb.2 b (hT b (by refine jK ((F.fr b hb).2.1) λo _ _ h _=>?_;rw[h];exact λq=>nomatch q))).trans e⟩) (bp sb.1.symm);have t':u0 g h' x c .none:=(qt vs T tc _ ((sb.2 x h6.symm).trans h1) h5 h6 h7 e' (by simp[h3]))
 exact hQ h' (u0.fly f' F t') t'
theorem tr.vH(FO:uL X (env::CV))(Ds:A.frames=ae (env::CV))(hf:env.frame=ae L)(a:At X U { s with heap:=g })(f:tr X U g x c s.heap)(hQ:∀h',tr X U g x c h'->Q () { s with heap:=h' }):aI (bq prog w) A (leaving env (.ref x)) Q E s:=by
 exact G9 (f.note FO Ds hf a λh' f' t'=>sX.vD (s:={ s with heap:=h' }) (ziQ FO a f) f' t' λh2 f2 _=>hQ h2 f2)
theorem tr.keepV(f:tr X U g x c h):sA U g U h:=⟨λb o e st=>by
 by_cases hb:b=x
 .subst hb;obtain⟨vs1,h1⟩:=f.exg;refine za f.exh λvs h4 _=>?_;rw[e] at h1;obtain rfl:=Hz h1;exact zf _ h4 (.inr (zaF c vs1 vs rfl rfl))
 .refine zf o (f.keepX b o e hb (.inl λes n q=>?_)) (.inl rfl)
  rcases st with⟨_,xs,k,h1⟩|⟨_,vs,h1⟩|⟨_,vs,_,h1⟩<;>(rw[h1] at q;cases q),λ_ _ e=>e⟩
theorem tr.at(QZ:∀L∈X.fr,X.h₀.get? L=af)(a:At X U { s with heap:=g })(hx:X.h₀.get? x=af)(f:tr X U g x c s.heap):At X U s:=by
 have Ry:U x=af:=by
  obtain⟨vs,h1⟩:=f.exg;exact a.stays h1 (.inr (.inr (zaE c vs rfl rfl)))
 have F:vi X U g x c:=⟨λL hL=>(zu ((a.ff L hL).1) ((a.ff L hL).2) (QZ L hL)),f.exg⟩
 refine⟨λb o e=>f.keepX b o (a.keep b o e) (λq=>by rw[q,hx] at e;exact nos e) (.inr (.inr (by rw[e];exact λq=>nomatch q))),λb o e=>(a.rep b o e).mono f.keepV λob Lz=>?_,a.own,a.gens,a.os,λL hL=>⟨(a.ff L hL).1,f.b.dict F hL⟩⟩;exact f.keepX b ob Lz (λq=>by rw[q,Ry] at e;exact nos e) (.inr (.inl (by rw[e];exact λq=>nomatch q)))
theorem tr.step(hx:ww U0 s0 x)(st:Step B U0 s0 U { s with heap:=g })(f:tr X U g x c s.heap):Step B U0 s0 U s:=by
 have CL:∀{b:aH} {o:oz},s0.heap.get? b=ae o->U0 b=af->b≠x:=λe h q=>hx _ (q▸e) (q▸h);refine⟨λb o e h1 h2 h3=>f.keepX b o (st.keep b o e h1 h2 h3) (CL e h1) (.inl h3),λb o e h1 h2=>?_,st.fresh,ap st.size f.size,st.frz⟩;obtain⟨sl,h3⟩:=st.keepD b o e h1 h2;obtain⟨sl',h4⟩:=f.keepS b _ h3 (CL e h1);exact⟨sl',h4⟩
end
def BG(X:Cx)(U:su)(s:ay)(Q:zt)(Z:XP):pM->ay->Prop:=λr s'=>match r with|.ok (.ret v)=>sB X U s Q v s'|.ok _=>False|.error e=>sE X U s Z e s'
@[irreducible] noncomputable def sy(X:Cx)(f:aH)(d:Dp)(CA:List AV)(Q:zt)(Z:XP)(U₀:su):Prop:=
 ∀A s vs U,sC U=U₀->sK X d A->At X U s->sw U s.heap CA vs->Hl X.M A (.call (.ref f) ⟨vs,[]⟩) (BG X U s Q Z) s
structure AU(X:Cx)(f:aH)(ps:List b7)(body:List iR)(scope:Scope):Prop where
 ex:∃o fd,X.h₀.get? f=ae o/\o.data = .func fd/\fd.scope=scope/\fd.body = .stmts body/\fd.closure=[]/\fd.globals=Hn/\fd.builtins=lB/\X.h₀.CodeRec fd.code fd.qualname/\
  ∀vs,vs.length=ps.length->dX fd ⟨vs,[]⟩=b9 (ps.zip vs)
structure uH(names:List (b7×bC))(nm:List (b7×Nat))(ps:List b7)(N:Nat):Prop where
 nodup:(names.map (·.1)).Nodup
 kinds:∀x i,nm.lookup x=ae i->i<N/\(names.lookup x=ae .local\/names.lookup x=ae .cell)
 inj:∀x y i,nm.lookup x=ae i->nm.lookup y=ae i->x=y
 par:∀x i,nm.lookup x=ae i->∀p,ps[i]? = ae p->p=x
 par':∀(i:Nat) p,ps[i]? = ae p->nm.lookup p=ae i
 le:ps.length<=N
 len:jR nm=N
 psnd:ps.Nodup
theorem zbE(names):∀(n:Nat) (acc:List (b7×aH)),names.lookup x=ae .cell\/(acc.lookup x).isSome=ag->((gq n names acc).lookup x).isSome=ag:=by
 induction names with
 | nil=>exact λ_ _ h=>h.elim (λe=>nomatch e) id
 | cons p r ih=>
  intro n acc h;show ((if (p.2==.cell)=ag then gq (n+1) r ((p.1,n)::acc) else gq n r acc).lookup x).isSome=ag
  by_cases hy:x=p.1
  .subst hy;rw[bF,beq_self_eq_true] at h
   by_cases hk:(p.2==.cell)=ag
   .rw[if_pos hk];exact ih _ _ (.inr (by rw[bF,beq_self_eq_true];rfl))
   .rw[if_neg hk];exact ih _ _ (.inr (h.elim (λe=>absurd (by rw[Hz e];rfl) hk) id))
  .have h:=h.imp (λe=>(jS hy).symm.trans e) id;split
   .exact ih _ _ (h.imp id λe=>by rw[jS hy];exact e)
   .exact ih _ _ h
theorem zdY(names):∀(n:Nat) (acc:List (b7×aH)),(names.map (·.1)).Nodup->(acc.map (·.1)).Nodup->(∀x,x∈acc.map (·.1)->x∉names.map (·.1))->((gq n names acc).map (·.1)).Nodup:=by
 induction names with
 | nil=>exact λ_ _ _ h _=>h
 | cons p r ih=>
  intro n acc hn ha hd;have CQ:=List.nodup_cons.mp hn;have DC:∀x,x∈acc.map (·.1)->x∉r.map (·.1):=λx hx q=>hd x hx (al _ q);show ((if (p.2==.cell)=ag then gq (n+1) r ((p.1,n)::acc) else gq n r acc).map (·.1)).Nodup;split
  .exact ih _ _ CQ.2 (List.nodup_cons.mpr ⟨λq=>hd _ q aj,ha⟩) (List.forall_mem_cons.mpr ⟨CQ.1,DC⟩)
  .exact ih _ _ CQ.2 ha DC
theorem zbU{V:Type}{r:List (b7×V)}(h:x∉r.map (·.1)):r.lookup x=af:=by
 cases e:r.lookup x with
 | none=>rfl
 | some c=>exact absurd (b8 (f:=(·.1)) (mem_of_lookup e)) h
theorem znz{kindOf:b7->Option bC}(hx:kindOf x=ae .local)(D5:List (b7×aD)):∀(m:b7->Option aD),(D5.map (·.1)).Nodup->bindL kindOf D5 m x=(D5.lookup x).or (m x):=by
 induction D5 with
 | nil=>exact λ_ _=>rfl
 | cons p r ih=>
  intro m hn;have CQ:=List.nodup_cons.mp hn;show bindL kindOf r (if kindOf p.1=ae .local then λy=>if y=p.1 then ae p.2 else m y else m) x=_;rw[ih _ CQ.2]
  by_cases hy:x=p.1
  .subst hy;rw[zbU CQ.1,bF,beq_self_eq_true];simp[hx]
  .rw[show oX x (p::r)=_ from jS hy];split
   .simp[hy]
   .rfl
theorem zny{kindOf:b7->Option bC}(hx:kindOf x=ae .cell)(D5:List (b7×aD)):∀(m:b7->Option aD),(D5.map (·.1)).Nodup->bindC kindOf D5 m x=(D5.lookup x).or (m x):=by
 induction D5 with
 | nil=>exact λ_ _=>rfl
 | cons p r ih=>
  intro m hn;have CQ:=List.nodup_cons.mp hn;show bindC kindOf r (if kindOf p.1=ae .local then m else λy=>if y=p.1 then ae p.2 else m y) x=_;rw[ih _ CQ.2]
  by_cases hy:x=p.1
  .subst hy;rw[zbU CQ.1,bF,beq_self_eq_true];simp[hx]
  .rw[show oX x (p::r)=_ from jS hy];split
   .rfl
   .simp[hy]
theorem zkh{ps:List b7}:∀{vs:List aD} {i:Nat} {x:b7},ps.Nodup->ps.length=vs.length->ps[i]? = ae x->(ps.zip vs).lookup x=vs[i]?:=by
 induction ps with
 | nil=>intro vs i x _ _ h;exact nos h
 | cons p ps ih=>
  intro vs i x hn hl h;cases vs with
  | nil=>cases hl
  | cons v vs=>
   cases i with
   | zero=>simp at h;subst h;simp
   | succ i=>
    have CQ:=List.nodup_cons.mp hn;rw[dO] at h;have CL:(x==p)=ai:=by
     cases hb:x==p with
     | false=>rfl
     | true=>rw[beq_iff_eq.mp hb] at h;exact absurd (bX h) CQ.1
    rw[i8,bF,CL,dO];exact ih CQ.2 (fN hl) h
theorem zdy{ps:List b7}{vs:List aD}{x:b7}(h:x∉ps):(ps.zip vs).lookup x=af:=zbU λq=>by
 exact za (List.mem_map.mp q) λp hp e=>h (e▸(gL (a:=p.1) (b:=p.2) hp).1)
noncomputable def vO(CA:List AV)(N:Nat):Loc:=CA.map ae++fH (N-CA.length) af
theorem zoI(CA)(N i):(vO CA N).getD i af=CA[i]?:=by
 unfold vO;rw[aF]
 by_cases h:i<CA.length
 .rw[bE (by simpa using h),bQ];rw[aC h];rfl
 .rw[bY (by simpa using Nat.not_lt.mp h),iV,cA (Nat.not_lt.mp h)];split<;>rfl
noncomputable def BE:Fl->AV
 | .next=>.none
 | .ret v=>v
theorem sw.getO(r:sw U h xs vs):∀(i:Nat),um U h xs[i]? vs[i]?:=by
 induction xs generalizing vs with
 | nil=>obtain rfl:=sw.wG r;intro i;simp;trivial
 | cons x xs ih=>
  obtain⟨_,_,rfl,a,r⟩:=sw.wF r;intro i;cases i with
  | zero=>exact a
  | succ i=>simpa using ih r i
mutual
inductive Fz(φ:aH->Option (List AV)):AV->AV->Prop
 | same (x:AV):Fz φ x x
 | lst {a:aH} {ys:List AV}:φ a=ae ys->Fz φ (.ref a) (.lst ys)
 | tup {xs ys:List AV}:uW φ xs ys->Fz φ (.tup xs) (.tup ys)
inductive uW(φ:aH->Option (List AV)):List AV->List AV->Prop
 | nil:uW φ [] []
 | cons {x y:AV} {xs ys:List AV}:Fz φ x y->uW φ xs ys->uW φ (x::xs) (y::ys)
end
structure xW(φ:aH->Option (List AV))(U U':su):Prop where
 lst:∀a ys,φ a=ae ys->U' a=af/\∃xs,U a=ae (.list xs)/\uW φ xs ys
 sub:∀a o,U' a=ae o->U a=ae o
@[irreducible] noncomputable def sD(Q:zt)(v:AV)(U:su):Prop:=∃φ U' v',xW φ U U'/\Fz φ v v'/\Q v' U'
theorem uW.length(h:uW φ xs ys):ys.length=xs.length:=by
 induction xs generalizing ys with
 | nil=>cases h;rfl
 | cons x xs ih=>cases h with|cons _ r=>rw[au,au,ih r]
theorem zps{o:AO}(h:o.ro=ag):∃xs,o = .frz xs:=by cases o<;>first|exact⟨_,rfl⟩|exact nob h
noncomputable def tJ(φ:aH->Option (List AV))(U U':su):su:=λa=>bif (U a).elim ai AO.ro then U a else ((φ a).map AO.frz).or (U' a)
section
variable{X:Cx}{φ:aH->Option (List AV)}{U U':su}{s:ay}(H:xW φ (sC U) U')
include H
theorem zn8(h:U a=ae (.frz xs)):tJ φ U U' a=ae (.frz xs):=by unfold tJ;rw[h];rfl
theorem zn9(h:φ a=ae ys):tJ φ U U' a=ae (.frz ys):=by
 refine qT (H.lst a ys h) λ_ xs h1 _=>?_;unfold tJ;rw[(zH h1).1,h];rfl
theorem zqz{a:aH}(h1:∀xs,U a≠ae (.frz xs))(h2:φ a=af):tJ φ U U' a=U' a:=by
 unfold tJ;rw[h2];cases e:U a with
 | none=>rfl
 | some o=>
  cases r:o.ro with
  | true=>obtain⟨xs,rfl⟩:=zps r;exact absurd e (h1 xs)
  | false=>show (bif o.ro then ae o else U' a)=_;rw[r];rfl
theorem za5{a:aH}{o:AO}(h:tJ φ U U' a=ae o):(∃xs,o = .frz xs/\U a=ae (.frz xs))\/(∃ys,o = .frz ys/\φ a=ae ys)\/(U' a=ae o/\U a=ae o/\o.ro=ai):=by
 unfold tJ at h;cases r:(U a).elim ai AO.ro with
 | true=>
  rw[r] at h;have h:U a=ae o:=h;rw[h] at r;obtain⟨xs,rfl⟩:=zps r;exact .inl (zf xs rfl h)
 | false=>
  rw[r] at h;cases e:φ a with
  | some ys=>rw[e] at h;obtain rfl:=Hz h;exact .inr (.inl (zf ys rfl rfl))
  | none=>rw[e] at h;have:=zH (H.sub a o h);exact .inr (.inr (zu h this.1 this.2))
theorem zs5:sC (tJ φ U U')=U':=by
 funext a
 cases e:tJ φ U U' a with
 | none=>
  rw[jU e];cases e':U' a with
  | none=>rfl
  | some o=>
   have h1:=zH (H.sub a o e');cases e2:φ a with
   | some ys=>rw[zn9 H e2] at e;exact absurd e (aA _)
   | none=>rw[zqz H (λxs q=>by rw[h1.1] at q;obtain rfl:=Hz q;cases h1.2) e2,e'] at e;exact absurd e (aA _)
 | some o=>
  rcases za5 H e with⟨xs,rfl,h1⟩|⟨ys,rfl,h1⟩|⟨h1,_,h2⟩
  .have:sC (tJ φ U U') a=af:=by unfold sC;rw[e];rfl
   rw[this];cases e':U' a with
   | none=>rfl
   | some o=>have h3:=zH (H.sub a o e');rw[h1] at h3;have:=h3.1;obtain rfl:=Hz this;cases h3.2
  .have:sC (tJ φ U U') a=af:=by unfold sC;rw[e];rfl
   rw[this,(H.lst a ys h1).1]
  .rw[zj8 e h2,h1]
theorem zf6:sA U s.heap (tJ φ U U') s.heap:=⟨λb o e _=>(zf o e (.inl rfl)),λb xs e=>zn8 H e⟩
theorem zoa(f:Fz φ x y)(r:sv U s.heap x v):sv (tJ φ U U') s.heap y v:=by
 refine Fz.rec (motive_1:=λx y _=>∀v,sv U s.heap x v->sv (tJ φ U U') s.heap y v) (motive_2:=λxs ys _=>∀vs,sw U s.heap xs vs->sw (tJ φ U U') s.heap ys vs) ?_ ?_ ?_ ?_ ?_ f v r
 .intro x v r;exact r.mono (zf6 H)
 .intro a ys h v r;obtain rfl:=sv.wK r;exact .lst (zn9 H h)
 .intro xs ys h ih v r;refine zj (sv.wI r) λ_ _ Dc hl ht rs=>?_;subst Dc;exact .tup (by rw[h.length];exact hl) ht (ih _ rs)
 .intro vs r;obtain rfl:=sw.wG r;exact .nil
 .intro x y xs ys _ _ h1 h2 vs r;obtain⟨_,_,rfl,a,r⟩:=sw.wF r;exact .cons (h1 _ a) (h2 _ r)
theorem zqA(f:uW φ xs ys)(r:sw U s.heap xs vs):sw (tJ φ U U') s.heap ys vs:=by
 induction xs generalizing ys vs with
 | nil=>cases f;obtain rfl:=sw.wG r;exact .nil
 | cons x xs ih=>cases f with|cons f1 f2=>cases r with|cons r1 r2=>exact .cons (zoa H f1 r1) (ih f2 r2)
theorem At.fz(a:At X U s):At X (tJ φ U U') s:=by
 refine⟨a.keep,λb o e=>?_,λb o e Ej=>?_,a.gens,a.os,λL hL=>⟨?_,(a.ff L hL).2⟩⟩
 .rcases za5 H e with⟨xs,rfl,h1⟩|⟨ys,rfl,h1⟩|⟨_,h1,_⟩
  .exact(a.rep _ _ h1).mono (zf6 H) λ_ h=>h
  .exact qT (H.lst b ys h1) λ_ xs h2 h3=>zl (a.isList0 (.inl (zH h2).1)) λvs h4 h5 h6=>zz vs h4 (zqA H h3 h5) (by rw[h3.length];exact h6)
  .exact(a.rep _ _ h1).mono (zf6 H) λ_ h=>h
 .rcases za5 H e with⟨xs,rfl,h1⟩|⟨ys,rfl,h1⟩|⟨_,h1,_⟩
  .exact nbo Ej
  .exact nbo Ej
  .exact a.own _ _ h1 Ej
 .cases e:tJ φ U U' L with
  | none=>rfl
  | some o=>
   have h0:=(a.ff L hL).1
   rcases za5 H e with⟨xs,rfl,h1⟩|⟨ys,rfl,h1⟩|⟨_,h1,_⟩
   .rw[h1] at h0;exact absurd h0 (aA _)
   .refine qT (H.lst L ys h1) λ_ xs h2 _=>?_;rw[(zH h2).1] at h0;exact absurd h0 (aA _)
   .rw[h1] at h0;exact absurd h0 (aA _)
theorem Step.fz:Step B U s (tJ φ U U') s:=.mk' (λ_ _ e _ _=>e) (λb h1 h2=>by
  cases e:tJ φ U U' b with
  | none=>exact absurd e h1
  | some o=>
   rcases za5 H e with⟨xs,rfl,h3⟩|⟨ys,rfl,h3⟩|⟨_,h3,_⟩
   .rw[h3] at h2;exact absurd h2 (aA _)
   .refine qT (H.lst b ys h3) λ_ xs h4 _=>?_;rw[(zH h4).1] at h2;exact absurd h2 (aA _)
   .rw[h3] at h2;exact nso h2) (ar _) λb xs e=>zn8 H e
end
theorem At.pop(a:At (X.push L) U s):At X U s:=⟨a.keep,a.rep,a.own,a.gens,a.os,λM hM=>a.ff M (al _ hM)⟩
section
variable{X:Cx}
theorem zlo{d:Dp}{m:fB->AS}{CA:List AV}(XO:X.Ok)(FN:AU X f ps body scope)(NO:uH scope.names nm ps N)
  (hk:scope.kind = .function)(QM:scope.isCoroutine=ai)(NE:scope.isGenerator=ai)(hs:∀env,sF env->env.scope=scope->j9 (X.push env) env nm body (m env))(hd:d.n<600)(Ct:CA.length=ps.length)
  (h:∀L,m L ⟨d.n+1,d.hd⟩ (vO CA N) (λfl _ U'=>sD Q (BE fl) U') (λc _ U'=>Z c U') U₀):sy X f d CA Q Z U₀:=by
 unfold sy;intro A s vs U hσ L a rv;subst hσ;refine ze2 FN.ex λo fd ho EM RS Jf HM FM HI Qc EW=>?_;have Jp:vs.length=ps.length:=by rw[<-rv.length];exact Ct
 have M4:ps.Nodup:=NO.psnd;have Pw:((ps.zip vs).map (·.1)).Nodup:=by
  have:(ps.zip vs).map (·.1)=ps:=by
   rw[oH];exact zuh Jp
  rw[this];exact M4
 subst RS;refine codeAny_call_function (fd:=fd) (by have:=L.depth;have:=L.small;show A.depth<1000;exact zb 0x7d1248280080096ca8001800962490d006 rfl hd (by assumption)) (a.keep _ _ ho) EM QM NE Jf (Qc.keeps a.keep) ?_;rw[EW vs Jp,HM,FM,HI];refine Ha (wpAny_newFunctionEnv_cells hk (λx hx=>?_) λenv he s1 IC=>?_)
 .have hm:x.1∈ps:=by
   have:=b8 (f:=(·.1)) hx;rwa [oH (zuh Jp)] at this
  obtain⟨i,hi⟩:=List.mem_iff_getElem?.mp hm
  rcases(NO.kinds x.1 i (NO.par' i _ hi)).2 with q|q
  .exact .inl q
  .exact .inr ⟨q,zbE _ _ _ (.inl q)⟩
 subst he;generalize henv:newEnv fd.scope s.heap.objs.size Hn (gq (s.heap.objs.size+1) fd.scope.names []) (fd.qualname++".<locals>.") (ae f) fd.code af lB=env at IC ⊢;have eL:env.locals=s.heap.objs.size:=by rw[<-henv];rfl
 have eC:env.cells=gq (s.heap.objs.size+1) fd.scope.names []:=by rw[<-henv];rfl
 have eS:env.scope=fd.scope:=by rw[<-henv];rfl
 have eK:∀x,env.kindOf x=fd.scope.names.lookup x:=λx=>by unfold lE;rw[eS]
 have EO:sF env:=⟨by rw[eS];exact hk,by rw[<-henv];rfl,by rw[<-henv];rfl,IC.apart⟩
 have keep:=IC.toInCall.keep;refine z0 IC.toInCall.same λh1 tk D3=>?_;have kv:sA U s.heap U s1.heap:=.ext keep;have a1:At (X.push env) U s1:=⟨λb o e=>keep b o (a.keep b o e),λb ao e=>(a.rep b ao e).mono kv λo ho=>keep b o ho,a.own,by rw[D3];exact a.gens,by rw[D3];exact a.os,λM hM=>by
  rcases List.mem_cons.mp hM with rfl|hM
  .exact⟨by rw[eL];exact a.none_of_size (ar _),zi0 IC.toInCall.ns⟩
  .exact a.ffk keep M hM⟩
 have Qt:(env.cells.map (·.1)).Nodup:=by rw[eC];exact zdY _ _ _ NO.nodup .nil λx hx=>by simp at hx
 have new:∀c:Nat,s.heap.objs.size<=c->U c=af/\X.h₀.get? c=af:=λc hc=>⟨a.none_of_size hc,by
  cases e:X.h₀.get? c with
  | none=>rfl
  | some o=>have:=ltA (a.keep c o e);lia⟩
 have val:∀x i,nm.lookup x=ae i->um U s1.heap ((vO CA N).getD i af) ((ps.zip vs).lookup x):=λx i hx=>by
  rw[zoI]
  by_cases hi:i<ps.length
  .have hp:ps[i]? = ae ps[i]:=aC hi;have CE:=NO.par x i hx _ hp;rw[<-CE,zkh M4 (zBC Jp) hp];exact(rv.getO i).mono kv
  .have:x∉ps:=λq=>by
    obtain⟨j,hj⟩:=List.mem_iff_getElem?.mp q;have h2:=NO.par' j x hj;rw[hx] at h2;obtain rfl:=Hz h2;exact hi (List.getElem?_eq_some_iff.mp hj).1
   rw[zdy this,cA (zxZ Ct hi)]
   trivial
 have F1:FR (X.push env) env nm (vO CA N) U s1.heap:=by
  refine⟨(zf _ IC.toInCall.ns (λx i hx FX=>?_)),λx i hx FX=>?_,by rw[eL];exact new _ (ar _),⟨λx i hx=>?_,NO.inj⟩,?_,λx c hx=>?_⟩
  .rw[znz FX _ _ Pw,pR];exact val x i hx
  .have HJ:=zbE (x:=x) fd.scope.names (s.heap.objs.size+1) [] (.inl (by rw[<-eK];exact FX));rw[<-eC] at HJ;obtain⟨c,hc⟩:=Option.isSome_iff_exists.mp HJ;refine zP c _ hc (IC.cell x c hc) ?_;rw[zny FX _ _ Pw,pR];exact val x i hx
  .have:=(NO.kinds x i hx).1;have CF:=NO.le;unfold vO;rw[aq,am,dA];exact zc 0x4550d120a004905006 rfl this
  .have CF:=NO.le;unfold vO;rw[aq,am,dA,NO.len];exact zc 0x401a82820880610046 rfl Ct CF
  .have hc:=IC.above x c hx;rw[eL] at hc;have hc':s.heap.objs.size<=c:=cX hc;exact zag ((new c hc').1) ((new c hc').2) _ (IC.cell x c (qc Qt hx))
 refine⟨XO.nolimit.keeps λb o e=>keep b o (a.keep b o e),?_⟩;refine zlq (codeAny_func ?_);have eF:env.frame=ae env.locals:=by rw[<-henv];rfl
 obtain⟨envs,Ds,FO⟩:∃envs,(A.deeper env).frames=ae (env::envs)/\uL (X.push env) (env::envs):=by
  refine zl L.frames λenvs h1 h2 _=>⟨envs,Around.frames_deeper h1,λe he=>?_,λM hM=>?_⟩
  .rcases List.mem_cons.mp he with rfl|he
   .exact zah (by rw[eS,hk];decide) _ eF aj
   .exact qT (h2.is e he) λk1 M k2 k3=>zah k1 M k2 (al _ k3)
  .rcases List.mem_cons.mp hM with rfl|hM
   .rw[eL];exact(new _ (ar _)).2
   .exact h2.out M hM
 have L1:sK (X.push env) ⟨d.n+1,d.hd⟩ (A.deeper env):=⟨by have:=L.depth;show A.depth+1<=301+(d.n+1);exact zb 0x24340012d95120a0020025b2a0006 rfl this,by have:=L.units;show A.units+3<=20+8*(d.n+1);exact zb 0x90d000022c000292a2c1400400022c000292a0006 rfl this,L.handled,hd,_,Ds,FO,λe he=>by cases he;exact⟨_,rfl⟩⟩
 have RY:s.heap.objs.size<s1.heap.objs.size:=by
  have:=IC.toInCall.ns.lt;rw[eL] at this;exact this
 have back:∀{σ2:su} {s2:ay},Step (FB env) U s1 σ2 s2->Step E0 U s σ2 s2:=λ{σ2 s2} Cy=>by
  have CH:Step (FB env) U s U s1:=.same (λb o e _=>keep b o e) (cX RY);refine(CH.trans Cy).drop λb hb=>?_
  rcases hb with hb|⟨x,hx⟩
  .rw[eL] at hb;rw[hb];exact .inr (ar _)
  .have hc:=IC.above x b hx;rw[eL] at hc;exact .inr (cX hc)
 refine Hb (hs env EO eS ⟨d.n+1,d.hd⟩ (A.deeper env) _ U s1 _ _ L1 a1 F1 (h env)) (λfl s2 Dl hsz=>jB Dl λIU l2 σ2 r2 a2 F2 Cy q2=>?_) λe s2 Dl=>kC Dl λc l2 σ2 x g he hx a2 F2 Cy f z=>?_
 case refine_2=>
  have hx:=hx.1;subst he;exact tr.vH FO Ds eF a2 f λh' f' hsz=>qt c σ2 x g rfl (λo e q=>hx o (keep _ _ e) q) a2.pop (back Cy) ⟨f'.keepS,f'.keepX,f'.exg,f'.size,f'.exh⟩ z
 have st:=back Cy;unfold sD at q2;refine jx q2 λφ σ3 v' fz fv q3=>zq v' (tJ φ σ2 σ3) (zoa fz fv ?_) ((At.fz fz a2).pop) (st.trans (Step.fz fz)) (by rw[zs5 fz];exact q3);cases fl with
 | next=>cases IU with|next=>exact sv.none|ret v=>exact r2.elim
 | ret v=>cases IU with|next=>exact r2.elim|ret av=>exact r2
 | brk=>cases IU<;>exact r2.elim
 | cont=>cases IU<;>exact r2.elim
end
def zvd(a:AV)(Q:List AV->su->Prop):List AV->su->Prop:=λas σ2=>Q (a::as) σ2
def zy9(F:Dp->Loc->(List AV->su->Prop)->XP->su->Prop)(d:Dp)(l:Loc)(Q:List AV->su->Prop)(Z:XP):zt:=λa σ1=>F d l (zvd a Q) Z σ1
def vr(ms:List AE):Dp->Loc->(List AV->su->Prop)->XP->su->Prop:=match ms with|[]=>λ_ _ Q _ U=>Q [] U|m::ms=>λd l Q Z U=>m d l (zy9 (vr ms) d l Q Z) Z U
noncomputable def jo(e:Expr):Bool:=!Nat.beq e.ctorIdx 22
theorem zL(h:jo e=ag):cZ (e::CC) env=(ai,fm e env)::cZ CC env:=by
 cases e<;>first|rfl|exact nob h
inductive sL(X:Cx)(env:fB)(nm:List (b7×Nat)):List Expr->List AE->Prop
 | nil:sL X env nm [] []
 | cons {e es m ms}:jo e=ag->zi X env nm e m->sL X env nm es ms->sL X env nm (e::es) (m::ms)
section
variable{X:Cx}{env:fB}{nm:List (b7×Nat)}
theorem sL.plain(h:sL X env nm es ms):(fo pos (cZ es env)).any (·.1)=ai:=by
 induction h with
 | nil=>rfl
 | cons hs _ r ih=>
  rw[zL hs];show (ai||(fo pos (cZ _ env)).any (·.1))=ai;rw[ih];rfl
theorem zal{es ms}(h0:sL X env nm es ms):∀{d A l U s Q Z},sK X d A->At X U s->FR X env nm l U s.heap->vr ms d l Q Z (sC U)->
  aI X.M A (mL (fo pos (cZ es env))) (Bx X U s Q) (sE X U s Z) s:=by
 induction h0 with
 | nil=>intro d A l U s Q Z L a F q;exact Ha ⟨[],U,.nil,a,.refl ..,q⟩
 | @cons e es m ms hs he r ih=>
  intro d A l U s Q Z L a F q;rw[zL hs];show aI X.M A (mL ((ai,fm e env)::fo pos (cZ es env))) _ _ s;refine bt (zak (he d A l U s _ Z L a F q) λav v σ1 s1 rv a1 st1 q1=>?_);refine Hb (ih L a1 (F.step a st1) q1) (λvs s2 x=>?_) λ_ _ x=>x.back st1;exact zj x λE9 σ2 Oq a2 Cy q2=>zq (av::E9) σ2 (.cons (rv.mono (Cy.keepV0 a1)) Oq) a2 (st1.trans Cy) q2
theorem qg{es ms}(h:sL X env nm es ms){d A l U s Q Z}(L:sK X d A)(a:At X U s)(F:FR X env nm l U s.heap)(q:vr ms d l Q Z (sC U))
  (k:∀vs s',Bx X U s Q vs s'->R ⟨vs,[]⟩ s'):aI X.M A (evalArgs f ag (fo pos (cZ es env)) []) R (sE X U s Z) s:=by
 cases h with
 | nil=>exact PyProof.Rows.evalArgs_none (k [] s (zq [] U .nil a (.refl ..) q))
 | cons hs he r=>
  have:=zal (pos:=pos) (.cons hs he r) L a F q;rw[zL hs] at this ⊢;exact d0 (Hb this (λvs s' x=>k vs s' x) λ_ _ x=>x)
end
def tO(r:Bool)(xs:List AV)(Q:zt)(U:su):Prop:=match r with|true=>∀p,U p=af->Q (.ref p) (U.set p (.list xs))|false=>Q (.lst xs) U
namespace A
def zzo(Q:zt):List AV->su->Prop:=λas U'=>vh as.length (Q (.tup as) U')
def zzg(r:Bool)(Q:zt):List AV->su->Prop:=λas U'=>vh as.length (tO r as Q U')
def zu8(X:Cx)(f:aH)(d:Dp)(Q:zt)(Z:XP):List AV->su->Prop:=λas U'=>sy X f d as Q Z U'
def tup(xs:List AE):AE:=λd l Q Z U=>vr xs d l (zzo Q) Z U
def lst(r:Bool)(xs:List AE):AE:=λd l Q Z U=>vr xs d l (zzg r Q) Z U
def wD(X:Cx)(f:aH)(CA:List AE):AE:=λd l Q Z U=>vr CA d l (zu8 X f d Q Z) Z U
end A
section
variable{X:Cx}{env:fB}{nm:List (b7×Nat)}
theorem zbe{E}(a:At X U s)(r:sw U s.heap as vs)(hl:as.length<=1000000)(q:Q (.tup as) (sC U)):aI X.M A (newTuple vs) (sB X U s Q) E s:=by
 refine eE ?_ (by show vs.toArray.size<=fO;rw[aK,<-r.length,Hd];exact zgT hl);exact zq (.tup as) U (.tup hl (qa _ (aM _ rfl) rfl 0 rfl) (r.mono (.push _))) (a.push _ s.toks) (Step.push U s _ s.toks) q
theorem made(a:At X U s)(rv:sw U s.heap as vs)(hl:as.length<=1000000)(q:tO r as Q (sC U)):sB X U s Q (.ref s.heap.objs.size) { s with heap:=s.heap.push (zY vs n),toks:=t }:=by
 have h0:=a.none_of_size (ar _);cases r with
 | true=>exact⟨.ref s.heap.objs.size,_,.ref _,a.alloc (ao:=.list as) t λkv=>(zP vs n (aM _ rfl) (rv.mono kv) hl),Step.alloc a _ _ t,by rw[jk rfl];exact q _ (jU h0)⟩
 | false=>exact zq (.lst as) _ (.lst (su.wA ..)) (a.alloc (ao:=.frz as) t λkv=>(zz vs (qa _ (aM _ rfl) rfl n rfl) (rv.mono kv) hl)) (Step.alloc a _ _ t) (by rw[zgR h0];exact q)
theorem ze8{E}(a:At X U s)(rv:sw U s.heap as vs)(hl:as.length<=1000000)(q:tO r as Q (sC U)) :
  aI X.M A (newList vs) (sB X U s Q) E s:=by
 refine eE ?_ (by show vs.toArray.size<=fO;rw[aK,<-rv.length,Hd];exact zgT hl);exact made (n:=0) (t:=s.toks) a rv hl q
theorem zm7(h:sL X env nm es ms):zi X env nm (.Tuple es k pos) (A.tup ms):=λd A l U s Q Z L a F q=>
 Tuple_ (Hb (zal h L a F q) (λvs s1 Dl=>zj Dl λE9 σ1 r a1 st q1=>jN st (zbe a1 r (zab q1).1 (zab q1).2)) λ_ _ x=>x)
theorem zmW(h:sL X env nm es ms):zi X env nm (.List es pos) (A.lst r ms):=λd A l U s Q Z L a F q=>
 List_ (Hb (zal h L a F q) (λvs s1 Dl=>zj Dl λE9 σ1 rv a1 st q1=>jN st (ze8 a1 rv (zab q1).1 (zab q1).2)) λ_ _ x=>x)
theorem qH{E}(XO:X.Ok)(EO:sF env)(a:At X U s)(hx:env.kindOf x=ae .globalImplicit)(hd:(x==("__debug__" : b7))=ai)
  (hv:X.mg x=ae v)(h:Q v s):aI X.M A (fm (.Name x pos) env) Q E s:=
 i9 EO.kind hx (Calls.loadGlobal_global (by rw[EO.glob];exact XO.g.keeps a.keep) hv h) hd
theorem jd{E}(XO:X.Ok)(EO:sF env)(a:At X U s)(hx:env.kindOf x=ae .globalImplicit)(hd:(x==("__debug__" : b7))=ai)
  (hn:X.mg x=af)(hv:X.mb x=ae v)(h:Q v s):aI X.M A (fm (.Name x pos) env) Q E s:=
 i9 EO.kind hx (Calls.loadGlobal_builtin (by rw[EO.glob];exact XO.g.keeps a.keep) hn (by rw[EO.bi];exact XO.b.keeps a.keep) hv h) hd
theorem sy.call(h:sy X f d CA Q Z (sC U))(L:sK X d A)(a:At X U s)(r:sw U s.heap CA vs) :
  aI X.M A (eP (.ref f) vs []) (sB X U s Q) (sE X U s Z) s:=by
 unfold sy at h;exact lF (Hi (h A s vs U rfl L a r) λIr s' x=>x)
theorem zjU(XO:X.Ok)(EO:sF env)(hx:env.kindOf g=ae .globalImplicit)(hd:(g==("__debug__" : b7))=ai)(hf:X.mg g=ae (.ref f))(ho:X.h₀.get? f=ae o)(EM:o.data = .func fd)(h:sL X env nm es ms) :
  zi X env nm (.Call (.Name g gp) es [] pos) (A.wD X f ms):=λd A l U s Q Z L a F q=>by
 refine oY (qH XO EO a hx hd hf ?_);refine mm (o:=o) (fd:=fd) (qg h L a F q λvs s1 Dl=>zj Dl λE9 σ1 r a1 st q1=>⟨⟨a1.keep _ _ ho,EM⟩,?_⟩);exact jN st (q1.call L a1 r)
end
noncomputable def AO.w4(o:AO):Option (List AV):=@AO.casesOn (λ_=>Option (List AV)) o ae (λ_=>af) (λ_=>af) (λ_ _=>af) λ_=>af
noncomputable def jq(U:su)(v:AV):Option (List AV):=v.lstE (v.refE af λp=>(U p).bind AO.w4) ae
theorem zB(h:U p=ae (.list xs)):jq U (.ref p)=ae xs:=by
 show (U p).bind AO.w4 = _;rw[h];rfl
theorem zZ(h:jq (sC U) x=ae xs):IsL U x xs:=by
 cases x with
 | lst ys=>cases h;exact .lst
 | ref p=>
  have h:(sC U p).bind AO.w4 = ae xs:=h;refine za (Option.bind_eq_some_iff.mp h) λo h1 h2=>?_;cases o with
  | list ys=>cases h2;exact .ref h1
  | _=>exact nos h2
 | _=>exact nos h
noncomputable def small(n:Nat):Bool:=iB n 1152921504606846976
def BS(r:Bool)(a b:AV)(Q:zt)(U:su):Prop:=zw (jq U a) λxs=>zw (jq U b) λys=>vh (xs.length+ys.length) (tO r (xs++ys) Q U)
def zyG(r:Bool)(a b:AV)(Q:zt)(U:su):Prop:=
 a.intE (a.tupE (BS r a b Q U) λxs=>zw b.tup? λys=>vh (xs.length+ys.length) (Q (.tup (xs++ys)) U)) λi=>zw b.int? λj=>Q (.int (i+j)) U
noncomputable def zuR(j:Int):Bool:=!(decide (j=0))&&iB j.natAbs 1073741824
noncomputable def wl(j:Int):Bool:=!(decide (j=0))
noncomputable def zvo(i j:Int):Bool:=decide (0<=j)&&decide (j<=1000)&&iB i.natAbs 18446744073709551616
def kI(a b:AV)(K:Int->Int->Prop):Prop:=zw a.int? λi=>zw b.int? λj=>K i j
def Bl(r:Bool)(op:pS)(a b:AV)(Q:zt)(U:su):Prop:=match op with|.Add=>zyG r a b Q U|.Sub=>kI a b λi j=>Q (.int (i-j)) U|.Mult=>kI a b λi j=>uh (small j.natAbs||small i.natAbs) (Q (.int (i*j)) U)|.FloorDiv=>kI a b λi j=>uh (zuR j) (Q (.int (i.fdiv j)) U)|.Mod=>kI a b λi j=>uh (wl j) (Q (.int (i.fmod j)) U)|.Pow=>kI a b λi j=>uh (zvo i j) (Q (.int (i ^ j.toNat)) U)|_=>False
section
variable{X:Cx}{A:bn}{U:su}{s:ay}{Q:zt}{E:aD->ay->Prop}{x y:AV}{u v:aD}
theorem za1(h:small i.natAbs=ag):mP i<=64:=by
 have h:i.natAbs<2 ^ 60:=by unfold small at h;have:=Nat.blt_eq.mp h;exact this
 unfold mP;split
 .exact y6
 .rename_i h0
  have:i.natAbs.log2<60:=(Nat.log2_lt (by intro e;simp[Int.natAbs_eq_zero] at e;subst e;simp at h0)).mpr h;exact zd 0x204920a00000f24905006 rfl this
theorem ziz(a:At X U s)(rx:sv U s.heap (.tup xs) u)(ry:sv U s.heap (.tup ys) v)(hq:xs.length+ys.length<=1000000)(q:Q (.tup (xs++ys)) (sC U)):aI X.M A (binaryOp .Add u v) (sB X U s Q) E s:=by
 refine zj (sv.wI rx) λt vs CU DJ ht rs=>?_;subst CU;refine zj (sv.wI ry) λt2 ws CP EN Ml Jc=>?_;subst CP;refine jJ (id ht) λMN ho hc n hd=>?_;obtain⟨cls,dd,data,sl⟩:=MN;refine jJ (id Ml) λNl Em Ep n2 Ei=>?_;obtain⟨cls2,dd2,data2,sl2⟩:=Nl;subst hc hd Ep Ei;have l1:=rs.length;have l2:=Jc.length;have e:vs.toArray++ws.toArray=(vs++ws).toArray:=by simp
 by_cases hv:vs=[]
 .subst hv;cases rs;exact lG (zf _ ho rfl) (zf _ Em rfl) iW mY fP fx (f9 _ _)
   (tuple_addW0 t t2 _ ws.toArray n n2 dd dd2 sl sl2 rfl) (zu ho Em (zb0 a (.tup EN Ml Jc) q))
 .by_cases hw:ws=[]
  .subst hw;cases Jc;refine lG (zf _ ho rfl) (zf _ Em rfl) iW mY fP fx (f9 _ _)
    (tuple_addW1 t t2 vs.toArray _ n n2 dd dd2 sl sl2 (by simpa using hv) rfl) (zu ho Em (zb0 a (.tup DJ ht rs) ?_))
   rwa [bz] at q
  .refine lG (zf _ ho rfl) (zf _ Em rfl) iW mY fP fx (f9 _ _)
    (tuple_addW2 t t2 vs.toArray ws.toArray n n2 dd dd2 sl sl2 (by simpa using hv) (by simpa using hw) (by rw[aK,aK,Hd];exact zg 0x8000004c20a00231180211bd09024315006 rfl hq l1 l2)) (zu ho Em ?_)
   rw[e];exact zq _ U (.tup (by rw[aq];exact hq) (qa _ (aM _ rfl) rfl 0 rfl) ((rs.append Jc).mono (.push _))) (a.push _ s.toks) (Step.push U s _ s.toks) q
theorem qe(a:At X U s)(rx:sv U s.heap x u)(ry:sv U s.heap y v)(q:BS r x y Q (sC U)):aI X.M A (binaryOp .Add u v) (sB X U s Q) E s:=by
 refine za (zh q) λxs h1 q=>za (zh q) λys h2 q=>?_;obtain⟨hl,q⟩:=zab q;refine zv (a.isList (zZ h1) rx) λp vs Fu _ ht rs _=>?_;subst Fu;refine zv (a.isList (zZ h2) ry) λp2 ws HU _ Ml Jc _=>?_;subst HU;refine jJ (id ht) λNn ho hc n hd=>?_;obtain⟨cls,dd,data,sl⟩:=Nn;refine jJ (id Ml) λLJ Em Ep n2 Ei=>?_;obtain⟨cls2,dd2,data2,sl2⟩:=LJ;subst hc hd Ep Ei;have l1:=rs.length;have l2:=Jc.length;have e:vs.toArray++ws.toArray=(vs++ws).toArray:=by simp
 refine lG (zf _ ho rfl) (zf _ Em rfl) noFill_list_add seq_list_add PySem.F.slot_list_add PySem.F.entry_list_add (PySem.F.args_list_add_2 _ _)
  (list_addW p p2 vs.toArray ws.toArray n n2 dd dd2 sl sl2 (by rw[aK,aK,Hd];exact zg 0x8000004c20a00231180211bd09024315006 rfl hl l1 l2)) (zu ho Em ?_)
 rw[e];exact made (n:=0) (t:=s.toks) a (rs.append Jc) (by rw[aq];exact hl) q
theorem zlj(a:At X U s)(rx:sv U s.heap x u)(ry:sv U s.heap y v)(q:Bl r op x y Q (sC U)):aI X.M A (binaryOp op u v) (sB X U s Q) E s:=by
 have two:∀{K:Int->Int->Prop},kI x y K->∃i j t t',x = .int i/\y = .int j/\u = .int i t/\v = .int j t'/\K i j:=λq=>by
  refine za (zh q) λi h1 q=>za (zh q) λj h2 q=>?_;have h1:=jv h1;have h2:=jv h2;subst h1;subst h2;obtain⟨_,rfl⟩:=sv.wC rx;obtain⟨_,rfl⟩:=sv.wC ry;exact qj i j _ _ rfl rfl rfl rfl q
 cases op with
 | Add=>
  cases x with
  | int i=>
   refine za (zh q) λj h2 q=>?_;have h2:=jv h2;subst h2;obtain⟨_,rfl⟩:=sv.wC rx;obtain⟨_,rfl⟩:=sv.wC ry;exact P.add_int (zaj a (.int _ _) q)
  | tup xs=>
   refine za (zh q) λys h2 q=>?_;have h2:=zrK h2;subst h2;exact ziz a rx ry (zab q).1 (zab q).2
  | str n=>exact qe (r:=r) a rx ry q
  | none=>exact qe (r:=r) a rx ry q
  | bool _=>exact qe (r:=r) a rx ry q
  | lst _=>exact qe (r:=r) a rx ry q
  | ref _=>exact qe (r:=r) a rx ry q
  | rng _ _=>exact qe (r:=r) a rx ry q
  | exc _=>exact qe (r:=r) a rx ry q
 | Sub=>refine jb (two q) λi j t t' KT Ku Ln K1 q=>?_;subst KT;subst Ku;subst Ln;subst K1;exact P.sub_int (zaj a (.int _ _) q)
 | Mult=>
  refine jb (two q) λi j t t' FL EX FQ FK q=>?_;subst FL;subst EX;subst FQ;subst FK;obtain⟨h,q⟩:=qX q
  rcases Bool.or_eq_true_iff.mp h with h|h
  .exact P.mul_int (zaj a (.int _ _) q) (IntMulOk.of_right (za1 h))
  .exact P.mul_int (zaj a (.int _ _) q) (IntMulOk.of_left (za1 h))
 | FloorDiv=>
  refine jb (two q) λi j t t' FL EX FQ FK q=>?_;subst FL;subst EX;subst FQ;subst FK;obtain⟨h,q⟩:=qX q;have h:=Bool.and_eq_true_iff.mp h;have h0:¬j=0:=by simpa using h.1
  exact floordiv_int h0 (zaj a (.int _ _) q) (.inl (PyProof.noPylong_small (Nat.blt_eq.mp h.2)))
 | Mod=>
  refine jb (two q) λi j t t' KN JE JH KF q=>?_;subst KN;subst JE;subst JH;subst KF;obtain⟨h,q⟩:=qX q;have h0:¬j=0:=by simpa [wl] using h
  exact mod_int' h0 (zaj a (.int _ _) q)
 | Pow=>
  refine jb (two q) λi j t t' KV JS LR Ky q=>?_;subst KV;subst JS;subst LR;subst Ky;obtain⟨h,q⟩:=qX q;have h:=Bool.and_eq_true_iff.mp h;have h1:=Bool.and_eq_true_iff.mp h.1;exact pow_int_small (H4 h1.1) (by have:=H4 h1.2;lia) (Nat.blt_eq.mp h.2) (zaj a (.int _ _) q)
 | _=>exact q.elim
end
mutual
inductive Rd(U:su):AV->eA->Prop
 | none:Rd U .none .none
 | bool (b:Bool):Rd U (.bool b) (.bool b)
 | int (i:Int):Rd U (.int i) (.int i)
 | str (n:Nat):Rd U (.str n) (.str (zC n))
 | tup {xs ds}:tD U xs ds->Rd U (.tup xs) (.tuple ds)
 | lst {xs ds}:tD U xs ds->Rd U (.lst xs) (.list ds)
 | list {a xs ds}:U a=ae (.list xs)->tD U xs ds->Rd U (.ref a) (.list ds)
inductive tD(U:su):List AV->List eA->Prop
 | nil:tD U [] []
 | cons {x xs d ds}:Rd U x d->tD U xs ds->tD U (x::xs) (d::ds)
end
theorem Rd.wN(r:Rd U .none d):d = .none:=by cases r;rfl
theorem Rd.wC(r:Rd U (.int i) d):d = .int i:=by cases r;rfl
theorem Rd.wL(r:Rd U (.str n) d):d = .str (zC n):=by cases r;rfl
theorem Rd.wI(r:Rd U (.tup xs) d):∃ds,d = .tuple ds/\tD U xs ds:=by cases r with|tup r=>exact zf _ rfl r
theorem Rd.wS(r:Rd U (.lst xs) d):∃ds,d = .list ds/\tD U xs ds:=by cases r with|lst r=>exact zf _ rfl r
theorem tD.wG(r:tD U [] ds):ds=[]:=by cases r;rfl
theorem tD.wF(r:tD U (x::xs) ds):∃e es,ds=e::es/\Rd U x e/\tD U xs es:=by cases r with|cons a r=>exact zP _ _ rfl a r
theorem Rd.reads(a:At X U s)(h:Rd (sC U) x d)(r:sv U s.heap x v):(∃as,lV s.heap v d as)/\d.canLay0=ag:=by
 refine Rd.rec (motive_1:=λx d _=>∀v,sv U s.heap x v->(∃as,lV s.heap v d as)/\d.canLay0=ag) (motive_2:=λxs ds _=>∀vs,sw U s.heap xs vs->(∃as,fJ s.heap vs ds as)/\cL ds=ag)
  ?_ ?_ ?_ ?_ ?_ ?_ ?_ ?_ ?_ h v r
 .intro v r;obtain rfl:=sv.wN r;exact⟨⟨_,.none⟩,by simp only[bU]⟩
 .intro b v r;obtain rfl:=sv.wP r;exact⟨⟨_,.bool b⟩,by simp only[bU]⟩
 .intro i v r;obtain⟨_,rfl⟩:=sv.wC r;exact⟨⟨_,.int i _⟩,by simp only[bU]⟩
 .intro n v r;refine za (sv.wL r) λt N6 hn=>?_;subst N6;exact⟨⟨_,.str _ t⟩,by simp only[bU];exact zio hn⟩
 .intro xs ds _ ih v r;refine zj (sv.wI r) λ_ _ Dc hl ht rv=>?_;subst Dc;refine jJ ht λo ho hc n hd=>?_;obtain⟨⟨as,h⟩,h2⟩:=ih _ rv;exact⟨⟨as,.tuple ho hc hd (by simpa using h)⟩,by simp only[bU];exact h2⟩
 .intro xs ds _ ih v r;refine zv (a.isList .lst r) λp vs Ff _ Oe rv _=>?_;subst Ff;refine jJ Oe λo ho hc n hd=>?_;obtain⟨⟨as,h⟩,h2⟩:=ih _ rv;exact⟨⟨_,.list ho hc hd (by simpa using h)⟩,by simp only[bU];exact h2⟩
 .intro p xs ds hp _ ih v r;refine zv (a.isList (.ref hp) r) λp vs Fu _ Oc rv _=>?_;subst Fu;refine jJ Oc λo ho hc n hd=>?_;obtain⟨⟨as,h⟩,h2⟩:=ih _ rv;exact⟨⟨_,.list ho hc hd (by simpa using h)⟩,by simp only[bU];exact h2⟩
 .intro vs r;obtain rfl:=sw.wG r;exact⟨⟨_,.nil⟩,rfl⟩
 .intro x xs d ds _ _ h1 h2 vs r;refine zm (sw.wF r) λ_ _ Ih rv Oq=>?_;subst Ih;obtain⟨⟨as,g1⟩,k1⟩:=h1 _ rv;obtain⟨⟨bs,g2⟩,k2⟩:=h2 _ Oq;exact⟨⟨_,.cons g1 g2⟩,by simp only[cL,k1,k2,Bool.and_self]⟩
def xK(A:bn)(s:ay)(x y:aD)(t:Bool):Prop:=
 ∀(prog:Hk) (w:cV) (E:aD->ay->Prop) (Q:aD->ay->Prop),Q (.bool t) s->aI (bq prog w) A (gB .Lt x y) Q E s
noncomputable def yo(A:bn)(s:ay)(f:Bool):List (aD×aD)->Bool->Prop
 | [],t=>t=f
 | p::r,t=>(rz A s p.1 p.2 ag/\yo A s f r t)\/(rz A s p.1 p.2 ai/\xK A s p.1 p.2 t)
theorem zfd(l b):dM.«tuple.__lt__» ⟨[l,b],[]⟩=(do
  if !(<-isInstance b (.type "tuple")) then return <-ret .notImplemented
  let xs <-eO l
  let ys <-eO b
  for (x,y) in xs.toList.zip ys.toList do
   if !(<-eqBool x y) then
    sq "tuple.compare.by-the-first-pair-that-differs";return <-ret (<-gB .Lt x y)
  ret (Builtin.Tuple.tupleCompareSizes .Lt xs.size ys.size)):=rfl
theorem zma{A:bn}{s:ay}{xs ys:List aD}(hl:iT s.heap l xs.toArray)(hb:iT s.heap b ys.toArray)(hu:A.units<f6)(h:yo A.in1 s (decide (xs.length<ys.length)) (xs.zip ys) t):xK A s (.ref l) (.ref b) t:=by
 intro prog w E Q q;refine wpAny_richCompare_same_or (op:=.Lt) hl.typeIs hb.typeIs pu (Hg pu hl.typeIs F.entry_tuple_lt ?_ (F.args_tuple_lt_2 _ _)) (.inr hu);rw[zfd];refine G9 (gm (T:="tuple") (b:=ag) hb.typeIs AutoSeq1.sub_tuple_tuple ?_);refine G9 (tupleItemsOf_ hl (G9 (tupleItemsOf_ hb ?_)));refine G9 (Hf _ (λCC b s'=>b=(af,())/\s'=s/\yo A.in1 s (decide (xs.length<ys.length)) CC t) _ ?_ ?_ _ _ (zu rfl rfl h))
 .intro p CC b s' hR;refine jg hR λe0 e1 hL=>?_;subst e0 e1
  rcases hL with⟨he,hr⟩|⟨he,hr⟩
  .exact G9 (he prog w _ _ (Ha (zu rfl rfl hr)))
  .refine G9 (he prog w _ _ (G9 (He (G9 (hr prog w _ _ (G9 (Ha (Ha ?_))))))));exact Ha (zz _ rfl (λe=>nomatch e) q)
 .intro b s' hR;refine jg hR λe0 e1 hL=>?_;subst e0 e1;have hL:t=decide (xs.length<ys.length):=hL;subst hL;exact Ha (zz _ rfl (λe=>nomatch e) q)
mutual
noncomputable def uc:eA->eA->Option Bool
 | .int i,.int j=>ae (decide (i<j))
 | .str x,.str y=>ae (decide (x.cps.toList<y.cps.toList))
 | .tuple xs,.tuple ys=>uq xs ys
 | _,_=>af
noncomputable def uq:List eA->List eA->Option Bool
 | [],[]=>ae ai
 | [],_::_=>ae ag
 | _::_,[]=>ae ai
 | x::xs,y::ys=>if aU x y then uq xs ys else uc x y
end
theorem zcq(a b):uc (.int a) (.int b)=ae (decide (a<b)):=rfl
theorem zoL(x y):uc (.str x) (.str y)=ae (decide (x.cps.toList<y.cps.toList)):=rfl
theorem zem(xs ys):uc (.tuple xs) (.tuple ys)=uq xs ys:=rfl
theorem zgl:uq [] []=ae ai:=rfl
theorem zq5(y)(ys):uq [] (y::ys)=ae ag:=rfl
theorem zq4(x)(xs):uq (x::xs) []=ae ai:=rfl
theorem q9(x y)(xs ys):uq (x::xs) (y::ys)=if aU x y then uq xs ys else uc x y:=rfl
theorem jG(r:fJ h vs (d::ds) as):∃v Jw a1 a2,vs=v::Jw/\lV h v d a1/\fJ h Jw ds a2:=
 (readsAll_cons_inv r).imp λ_ h=>h.imp λ_ h=>h.imp λ_ h=>h.imp λ_ h=>⟨h.1,h.2.2⟩
theorem j1(r:fJ h vs [] as):vs=[]:=(readsAll_nil_inv r).1
theorem zbs(r:lV h v (.int i) as):∃t,v = .int i t:=(reads_int_inv r).imp λ_ h=>h.1
theorem zbt(r:lV h v (.str x) as):∃t,v = .str x t:=(reads_str_inv r).imp λ_ h=>h.1
theorem ztm{M:eA->eA->Bool->Prop}(hi:∀i j:Int,M (.int i) (.int j) (decide (i<j)))(hs:∀x y:b7,M (.str x) (.str y) (decide (x.cps.toList<y.cps.toList)))(ht:∀xs ys t,uq xs ys=ae t->M (.tuple xs) (.tuple ys) t)
  (e:uc da db=ae t):M da db t:=by
 cases da with
 | int i=>cases db with|int j=>exact Hz e▸hi i j|_=>exact nos e
 | str x=>cases db with|str y=>exact Hz e▸hs x y|_=>exact nos e
 | tuple xs=>cases db with|tuple ys=>exact ht xs ys t e|_=>exact nos e
 | _=>exact nos e
def yx(s:ay)(da:eA):Prop:=∀{A:bn} (db:eA) {a b:aD} {as bs:List aH} {t:Bool},lV s.heap a da as->lV s.heap b db bs->da.canLay0=ag->db.canLay0=ag->A.units+2*da.depth+10<f6->uc da db=ae t->xK A s a b t
theorem zl8:(∀x∈xs,yx s x)->∀{A:bn} {ys:List eA} {vs ws:List aD} {as bs:List aH} {f t:Bool},fJ s.heap vs xs as->fJ s.heap ws ys bs->cL xs=ag->cL ys=ag->A.units+2*bf xs+10<f6->uq xs ys=ae t->f=decide (vs.length<ws.length)->yo A s f (vs.zip ws) t:=by
 induction xs with
 | nil=>
  intro _ A ys vs ws as bs f t rx ry ha hb hu e hf;rw[j1 rx] at hf ⊢;cases ys with
  | nil=>rw[j1 ry] at hf;exact(Hz e).symm.trans hf.symm
  | cons y ys=>refine kl (jG ry) λ_ _ _ _ z1 _ _=>?_;rw[z1] at hf;exact(Hz e).symm.trans hf.symm
 | cons x xs ih=>
  intro H A ys vs ws as bs f t rx ry ha hb hu e hf;refine kl (jG rx) λ_ _ _ _ z1 h1 h2=>?_;rw[z1] at hf ⊢;cases ys with
  | nil=>rw[j1 ry] at hf ⊢;exact(Hz e).symm.trans hf.symm
  | cons y ys=>
   refine kl (jG ry) λ_ _ _ _ z1 k1 k2=>?_;rw[z1] at hf ⊢;have ha:=(bx _ _).mp ha;have hb:=(bx _ _).mp hb;have hu:A.units+2*fF x.depth (bf xs)+10<f6:=hu;have Jm:=lD x y A s _ _ _ _ h1 k1 ha.1 hb.1 (zym hu);rw[q9] at e;cases hE:aU x y with
   | true=>rw[hE] at e Jm;exact .inl ⟨Jm,ih (λz hz=>H z (al _ hz)) h2 k2 ha.2 hb.2 (zyc hu) e (hf.trans (decide_eq_decide.mpr mn))⟩
   | false=>rw[hE] at e Jm;exact .inr ⟨Jm,H x aj y h1 k1 ha.1 hb.1 (zyb hu) e⟩
theorem znS(h:bf xs<=n):∀x∈xs,x.depth<=n:=by
 induction xs with
 | nil=>exact λ_ h=>nomatch h
 | cons y ys ih=>exact List.forall_mem_cons.mpr ⟨ap (lW _ _) h,ih (ap (iX _ _) h)⟩
theorem zso(H:∀xs,(nN xs).depth<=n->∀x∈xs,yx s x)(da:eA)(hn:da.depth<=n):yx s da:=by
 intro A db a b as bs t ra rb ha hb hu e;refine ztm (M:=λda db t=>da.depth<=n->lV s.heap a da as->lV s.heap b db bs->da.canLay0=ag->db.canLay0=ag->A.units+2*da.depth+10<f6->xK A s a b t) ?_ ?_ ?_ e hn ra rb ha hb hu
 .intro i j _ ra rb _ _ _;refine zQ (zbs ra) λ_ z1=>zQ (zbs rb) λ_ z2=>?_;rw[z1,z2];exact λprog w E Q q=>P.lt_int q
 .intro i j _ ra rb _ _ _;refine zQ (zbt ra) λ_ z1=>zQ (zbt rb) λ_ z2=>?_;rw[z1,z2];exact λprog w E Q q=>P.lt_str q
 .intro xs ys t e hn ra rb ha hb hu;refine zm (nO ra) λ_ _ z1 h1 hr=>zm (nO rb) λ_ _ z2 h2 Fa=>?_;rw[z1,z2];exact zma h1 h2 (zB0 hu) (zl8 (H xs hn) hr Fa ha hb (zBZ hu) e rfl)
theorem zl9(n):∀da:eA,da.depth<=n->yx s da:=by
 induction n with
 | zero=>exact zso λxs h=>absurd h (mo _)
 | succ n ih=>exact zso λxs h=>λx hx=>ih x (znS (dU h) x hx)
theorem zhG(da db)(ra:lV s.heap a da as)(rb:lV s.heap b db bs)(ha:da.canLay0=ag)(hb:db.canLay0=ag)(hu:A.units+2*da.depth+10<f6)(e:uc da db=ae t):xK A s a b t:=zl9 _ da (ar _) db ra rb ha hb hu e
theorem zaT:entryFor table "dict.update.loop" = ae dM.«dict.update.loop»:=oI (by kernel_rfl)
theorem qd:plainId "dict.update.loop" = ag:=by decide +kernel
section
variable{prog:Hk}{w:cV}{A:bn}{R:pM->ay->Prop}{I:aH}{fp wr:List aH}{G:Array iQ->Array iQ->Prop}{P:Nat->aD->Prop}{St:Nat->ay->Prop}
def yY(h0:cI)(S:aH)(wr:List aH)(p:b7×aD)(v:aD):Prop:=∃b kt n o,v = .ref b/\b≠S/\b∉wr/\h0.get? b=ae o/\o.cls = .type "tuple"/\o.data = .seq #[.str p.1 kt,p.2] n
theorem zqm(W:WalksS prog w A.in1 I fp wr G ps.length P St)(S)(GO:S∉fp)(hn:ps.length<=100)(Ik:∀i v,P i v->∃p,ps[i]? = ae p/\yY h0 S wr p v) :
  ∀(k i t:Nat) (s:ay),ps.length-i=k->i<=ps.length->St i s->s.heap.DictOf (strKind prog w) S (merged [] (ps.take i))->(∀b o,b≠S->b∉wr->h0.get? b=ae o->s.heap.get? b=ae o)->
   (∀s',Moved (S::wr) G s s'->s'.heap.DictOf (strKind prog w) S (merged [] ps)->R (.ok (.ret .none)) s')->
   Hl (bq prog w) A (.builtin "dict.update.loop" ⟨[.ref S,.ref I,.int i t,.none],[]⟩) R s:=by
 have KW:S∉wr:=λh=>GO (W.sub _ h);have Db:∀b∈wr,b∈S::wr:=λb hb=>al _ hb;intro k
 induction k with
 | zero=>
  intro i t s hk hi GX hS hB hR;obtain rfl:i=ps.length:=zsE hk hi;rw[oJ] at hS;refine cD zaT ?_;rw[bZ qd _];show aI _ A.in1 (oF (.ref I) >>= _) _ _ s;refine G9 (W.done s _ _ GX λs' hm=>?_);refine G9 (m:=Builtin.Dict.addKeywords S []) (cQ (a:=()) rfl ?_);exact Ha (hR s' (hm.mono Db) (hS.at λo e=>hm.heap S _ KW e))
 | succ k ih=>
  intro i t s hk hi GX hS hB hR;refine cD zaT ?_;rw[bZ qd _];show aI _ A.in1 (oF (.ref I) >>= _) _ _ s;refine G9 (W.item i s _ _ (znj hk) GX λv s' hP Ig hm=>?_);obtain⟨p,hp,b,kt,n,o,rfl,hbS,hbw,hb,hbc,Jf⟩:=Ik i v hP;have Cu:i<ps.length:=znj hk;have Dv:=hm.heap b _ hbw (hB b _ hbS hbw hb);have hT:s'.TypeIs (.ref b) "tuple":=⟨_,Dv,hbc⟩
  show aI _ A.in1 (holding [cO b] _ >>= _) _ _ s';refine G9 (Hc ?_);refine G9 (wpAny_tryCatch ?_);unfold Builtin.Dict.pairItems;refine G9 (wpAny_typeOf hT ?_);refine d9 (λ_=>?_) λh=>absurd (by decide) h;refine G9 (wpAny_seqItems Dv Jf (Ha ?_));show aI _ A.in1 (holding [rM p.1 kt,p.2] (dictSet S (.str p.1 kt) p.2)) _ _ s';refine Hc ?_;have Ek:s'.heap.DictOf (strKind prog w) S (merged [] (ps.take i)):=hS.at λo e=>hm.heap S _ KW e;refine mO (knd:=strKind prog w) (k:=p.1) (pQ _ _ _ _) Ek (λh' hD Es=>?_) (ap (merged_length_le _ _) ?_)
  .have e1:mj (merged [] (ps.take i)) p.1 p.2=merged [] (ps.take (i+1)):=(merged_take_succ [] ps i p hp).symm;rw[e1] at hD;refine Ha ⟨eu qd _,ih (i+1) 0 _ (zr0 hk) (zkd Cu) (W.frame _ s' _ _ Ig (cG _) λc hc o e=>?_) hD (λc o hc hw e=>?_) λs'' IZ Je=>?_⟩
   .rw[Es.2 c (λh:c=S=>GO (by rw[<-h];exact hc))];exact e
   .rw[Es.2 c hc];exact hm.heap c _ hw (hB c o hc hw e)
   .refine hR s'' (Moved.trans W.gtrans ((hm.mono Db).then_heap (cG _) λc o hc e=>?_) IZ) Je;rw[Es.2 c (λh:c=S=>hc (by rw[h];exact aj))];exact e
  .rw[bG,ci,dt,Hd];exact ap (Nat.min_le_right ..) (ap hn (by decide))
end
theorem zey:mroOf (.type "dict")=b9 [.type "dict",.type "object"]:=by rw[mroOf_type];kernel_rfl
theorem zdv:lH (.type "dict") "__new__" = b9 (ae (.builtin "dict.__new__")):=by rw[pv,m7];kernel_rfl
theorem called_dict:TypeCalled "dict" "dict.__new__" "dict.__init__":=
 ⟨by decide +kernel,by decide +kernel,(j3 _ _ zey),madeBy_type zey zdv (by decide +kernel),by decide +kernel,by rw[isSubtype_type];kernel_rfl,PySem.F.slot_dict_init⟩
theorem zdx(a):checkTypeCall "dict" ⟨[a],[]⟩=b9 ():=by kernel_rfl
theorem zeB(a):gt "dict.__new__" ⟨[.type "dict",a],[]⟩=b9 ():=by kernel_rfl
theorem zd8:entryFor table "dict.__new__" = ae dM.«dict.__new__»:=oI (by kernel_rfl)
theorem zbk:plainId "dict.__new__" = ag:=by decide +kernel
section
variable{prog:Hk}{w:cV}{A:bn}{E:aD->ay->Prop}{s:ay}
noncomputable abbrev xg:oz:={ cls:=.type "dict",dict:=af,data:=.dict #[] 0 }
theorem zuQ(a)(h:Q₁ (.ref s.heap.objs.size) { s with heap:=s.heap.push xg }) :
  Hl (bq prog w) A (.call (.builtin "dict.__new__") ⟨[.type "dict",a],[]⟩) (wants Q₁ E) s:=by
 refine gM ?_;show aI _ A.in1 (do gt "dict.__new__" ⟨[.type "dict",a],[]⟩;again (.builtin "dict.__new__" ⟨[.type "dict",a],[]⟩)) _ _ s;refine G9 (cQ (zeB a) (Ha ⟨eu zbk _,cD zd8 ?_⟩));rw[bZ zbk _];unfold dM.«dict.__new__»;have Db:mM (.type "dict") (.type "dict")=b9 ag:=called_dict.sub;have JF:=zey;obtain⟨hp,g,d,tk,os⟩:=s;dsimp only
 wp_walk
 exact h
theorem zgi:lH (.type "list") "keys" = b9 af:=by rw[pv,m7];kernel_rfl
theorem zlU(hA:A.handled=af)(hx:s.heap.get? a=ae { cls:=.type "list",dict:=af,data:=.seq xs k,slots:=#[] })(h:∀h' tk,(∀b o,s.heap.get? b=ae o->h'.get? b=ae o)->Q af { s with heap:=h',toks:=tk }):aI (bq prog w) A (pT (.ref a) "keys") Q E s:=by
 obtain⟨hp,g,d,tk,os⟩:=s;have hT:∀Ju,(⟨hp,g,d,Ju,os⟩:ay).TypeIs (.ref a) "list":=λ_=>(zf _ hx rfl)
 have f1:=sub_AttributeError;have f3:=PySem.F.slot_list_getattribute.lookup;have f4:=PySem.F.slot_list_getattribute.bind (.ref a);have f5:=am_list_getattr_none;unfold pT getAttrBy? getAttrBy
 repeat (any_goals (first|assumption|exact hT _|((with_reducible show aI _ _ (call (Value.builtin "list.__getattribute__") _ _) _ _ _);refine ic PySem.F.slot_list_getattribute (hT _) am_entry_list_getattribute (PySem.F.args_list_getattribute_2 _ _) (meets_getattribute_miss_list a xs k #[] "keys" _ zgi (by decide +kernel)) (zu hx hA (λh' Ju e hx'=>?_)))|wp_step))
 refine z0 hx'.there λt' u' he=>?_;show aI _ _ (ni _ _ _ _ _ _ _) _ _ _;unfold ni
 repeat (any_goals (first|assumption|wp_step))
 exact h _ _ hx'.keeps
theorem zsV(hh:A.handled=af)(hl:s.heap.get? l=ae { cls:=.type "list",dict:=af,data:=.seq items nl,slots:=#[] })(hn:ps.length<=100)(hsz:items.size=ps.length)(hi:∀(i:Nat) v,items[i]? = ae v->∃p,ps[i]? = ae p/\yY s.heap S [] p v)(hS:s.heap.get? S=ae xg)(CL:S≠l)
  (h:∀h' tk,h'.DictOf (strKind prog w) S (merged [] ps)->(∀b o,b≠S->s.heap.get? b=ae o->h'.get? b=ae o)->R (.ok (.ret .none)) { s with heap:=h',toks:=tk }) :
  aI (bq prog w) A.in1 (dM.«dict.__init__» ⟨[.ref S,.ref l],[]⟩)
   (λfin s'=>match fin with|.done f=>R (.ok f) s'|.again c'=>c'.quiet=ag/\Hl (bq prog w) A c' R s') (λe s'=>R (.error e) s') s:=by
 have hT:gy s (.ref S) "dict":=(zf _ hS rfl)
 have Sn:gy s (.ref l) "list":=(zf _ hl rfl)
 unfold dM.«dict.__init__» Builtin.Dict.selfAndRest;refine G9 (G9 (g8 hT ?_));refine G9 (cQ (a:=S) rfl (Ha ?_));show aI _ _ (iY "dict.__init__" S (.ref l) [] .none) _ _ s;unfold iY;refine G9 (wpAny_typeOf Sn ?_);refine d9 (λ_=>?_) λh=>absurd (by decide) h;refine G9 (zlU (A:=A.in1) (by simpa using hh) hl λh1 vZ Dg=>?_);refine d9 (λ_=>?_) λh=>absurd rfl h;refine G9 (He ?_);have Ey:h1.IsList l items:=(qa _ (Dg _ _ hl) rfl _ rfl)
 refine G9 (fQ (s:={ s with heap:=h1,toks:=vZ }) Ey ?_);have Nc:S<h1.objs.size:=aO (Dg _ _ hS);have EP:l<h1.objs.size:=aO (Dg _ _ hl);have GO:S∉[h1.objs.size,l]:=by
  simp only[bR,aZ,or_false,not_or];exact⟨bl Nc,CL⟩
 refine Ha ⟨eu qd _,?_⟩;refine zqm (ps:=ps) (h0:=h1) (hsz▸(pU (A:=A.in1) (by simpa using hh) h1.objs.size l (bl EP) items).toS) S GO hn (λi v hv=>?_) (ps.length-0) 0 0 _ rfl (aE _)
  ⟨(zz _ (aM _ rfl) rfl rfl),(Ey.push _)⟩ ?_ (λb o _ _ e=>az _ e) λs' hm Ek=>?_
 .obtain⟨p,hp,b,kt,n,o,rfl,Lu,_,hb,DA⟩:=hi i v hv;refine⟨p,hp,b,kt,n,o,rfl,Lu,?_,Dg _ _ hb,DA⟩;rw[bK];exact bl (aO (Dg _ _ hb))
 .exact k8 _ _ _ (az _ (Dg _ _ hS)) (zu rfl rfl rfl) rfl (by first|exact(λ_ he=>nomatch he)|simp[KeysOf]) (by first|exact trivial|exact .nil|simp[Pairs]) .nil
 .obtain⟨h',g',d',Ju,os'⟩:=s';have eg:g'=s.gens:=hm.gens;have ed:d'=s.drawn:=hm.drawn;have eo:os'=s.os:=hm.os;subst eg;subst ed;subst eo;refine h h' Ju Ek λb o hb e=>hm.heap b o ?_ (az _ (Dg _ _ e));simp only[bR,aZ,or_false,not_or];exact⟨hb,bl (aO (Dg _ _ e))⟩
theorem zsU(hh:A.handled=af)(hl:s.heap.get? l=ae { cls:=.type "list",dict:=af,data:=.seq items nl,slots:=#[] })(hn:ps.length<=100)(hsz:items.size=ps.length)(hi:∀(i:Nat) v,items[i]? = ae v->∃p,ps[i]? = ae p/\yY s.heap s.heap.objs.size [] p v)
  (h:∀h' tk,h'.DictOf (strKind prog w) s.heap.objs.size (merged [] ps)->(∀b o,s.heap.get? b=ae o->h'.get? b=ae o)->Q (.ref s.heap.objs.size) { s with heap:=h',toks:=tk }) :
  aI (bq prog w) A (call (.type "dict") [.ref l]) Q E s:=by
 refine z0 called_dict.mro λc tl JF=>?_;have JK:=called_dict.made;have Db:=called_dict.sub;refine lF (gM ?_);show aI _ _ (callAny (.type "dict") _) _ _ _;refine Ha ⟨nj _ (by decide +kernel),cD iZ ?_⟩;rw[nq (m8 "dict" [.ref l] []) rfl];have h1:=called_dict.notType;have h2:=called_dict.canCreate;have Qz:=zdx (.ref l)
 repeat (any_goals (first|assumption|wp_step))
 refine Hi (zuQ (.ref l) (E:=E) (Q₁:=λobj s₁=>obj = .ref s.heap.objs.size/\s₁={ s with heap:=s.heap.push xg }) ⟨rfl,rfl⟩) λr s₁ hr=>?_;cases r with
 | error e=>exact hr
 | ok fl=>
  cases fl with
  | ret obj=>
   obtain⟨rfl,rfl⟩:=hr;have hS:(s.heap.push xg).get? s.heap.objs.size=ae xg:=aM _ rfl;have hT:gy { s with heap:=s.heap.push xg } (.ref s.heap.objs.size) "dict":=(zf _ hS rfl)
   have QO:=called_dict.init.lookup;have HI:=called_dict.init.bind (.ref s.heap.objs.size)
   repeat (any_goals (first|assumption|wp_step))
   refine Hi (gC (R:=wants (λr s₂=>r = .none/\∃h' tk,s₂={ s with heap:=h',toks:=tk }/\h'.DictOf (strKind prog w) s.heap.objs.size (merged [] ps)/\(∀b o,s.heap.get? b=ae o->h'.get? b=ae o)) E)
    called_dict.init.plain PySem.F.entry_dict_init (PySem.F.slot_dict_init.check _ _ _ _ _ _ _ _ hT (PySem.F.args_dict_init_2 _ _) ?_)) λr₂ s₂ IX=>?_
   .have EP:l<s.heap.objs.size:=aO hl;refine zsV (s:={ s with heap:=s.heap.push xg }) hh (az _ hl) hn hsz (λi v hv=>?_) hS (eW EP) λh' tk Ek hk=>?_
    .obtain⟨p,hp,b,kt,n,o,e,Lu,Fk,hb,DA⟩:=hi i v hv;exact⟨p,hp,b,kt,n,o,e,Lu,Fk,az _ hb,DA⟩
    exact⟨rfl,h',tk,rfl,Ek,λb o e=>hk b o (bl (aO e)) (az _ e)⟩
   .cases r₂ with
    | error e=>exact IX
    | ok fl₂=>
     cases fl₂ with
     | ret r=>
      obtain⟨rfl,h',tk,rfl,Ek,CO⟩:=IX
      repeat (any_goals (first|assumption|wp_step))
      exact h _ _ Ek CO
     | _=>exact IX.elim
  | _=>exact hr.elim
end
section
variable{prog:Hk}{w:cV}{A:bn}{E:aD->ay->Prop}{s:ay}
theorem zeQ{id:String}{a b:aH}{ka kb:List (b7×aD)}{Q:Bool->ay->Prop}(ha:s.heap.DictOf (strKind prog w) a ka)(hb:s.heap.DictOf (strKind prog w) b kb)(Lk:(a==dS)=ai)(Es:(b==dS)=ai)(Ct:ka.length=kb.length)
  (hv:∀p∈ka,∃v,gU kb p.1=ae v/\rz A s p.2 v ag)(hq:Q ag s):aI (bq prog w) A (lI id a b) Q E s:=by
 refine ja ha λoa ea pa ga xa da ya ra na=>ja hb λob eb pb gb xb db yb rb nb=>?_;have la:ea.size=ka.length:=by rw[<-ra.length];simp
 have lb:eb.size=kb.length:=by rw[<-rb.length];simp
 unfold lI Builtin.Dict.showsAll;rw[Lk,Es];refine G9 (Ha ?_);refine G9 (Ha ?_);refine G9 (fR ga da ?_);refine G9 (fR gb db ?_);refine d9 (λh=>absurd h (by rw[la,lb,Ct];simp)) λ_=>G9 (px ga da ?_);refine G9 ?_;rw[Std.Legacy.Range.forIn_eq_forIn_range'];simp only[Std.Legacy.Range.size,Nat.sub_zero,Nat.add_sub_cancel,Nat.div_one];refine Hf _ (λCC r s'=>s'=s/\r=(af,())/\∀i∈CC,i<ea.size) _ ?_ ?_ _ _ (zu rfl rfl (λi hi=>by rw[List.mem_range'_1] at hi;rw[ci] at hi;exact hi.2))
 .rintro i CC _ _ ⟨rfl,rfl,hr⟩;have Cu:=hr i aj;refine G9 (fR ga da ?_);rw[ir Cu];have Sf:ka[i]? = ae ka[i]:=aC (by rw[<-la];exact Cu);obtain⟨Dg,EB⟩:=ra.get? (i:=i) (e:=ea[i]) (k:=(ka[i]'(by rw[<-la];exact Cu)).1) (v:=(ka[i]'(by rw[<-la];exact Cu)).2) (by rw[bg,ir Cu]) Sf;refine za (ya ea[i] (nP Cu)) λk' Ld hh=>?_;obtain rfl:=(strKind prog w).inj _ _ _ Dg Ld;refine za (hv _ (cH (by rw[<-la];exact Cu))) λv Pb MQ=>?_;dsimp only;rw[hh];refine G9 (Hc (G9 (wpAny_dictFind_of Dg gb db yb ?_)));cases hj:eb.findIdx? λe=>(strKind prog w).is (ka[i]'(by rw[<-la];exact Cu)).1 e.key with
  | none=>
   have h1:=rb.find (ka[i]'(by rw[<-la];exact Cu)).1;have h2:eb.toList.findIdx? (λe=>(strKind prog w).is (ka[i]'(by rw[<-la];exact Cu)).1 e.key)=af:=by rw[<-hj];exact(g9 ..).symm
   have h3:=List.findIdx?_eq_none_iff.mp h2;rw[Pb,List.find?_eq_none.mpr λx hx=>by rw[h3 x hx];exact cT] at h1;exact nos h1
  | some j=>
   refine zl (rb.at (i:=j) (k:=(ka[i]'(by rw[<-la];exact Cu)).1) (by rw[<-hj];exact(g9 ..).symm)) λf hf _ Mz=>?_;rw[Pb] at Mz;obtain rfl:=Hz Mz;refine G9 (fR gb db ?_);rw[bg] at hf;rw[hf];refine Hc ?_;rw[EB];refine MQ _ _ _ _ (d9 (λh=>absurd h (by decide)) λ_=>G9 (px ga da ?_));refine d9 (λh=>absurd h (by simp)) λ_=>Ha (zu rfl rfl (λi hi=>hr i (al _ hi)))
 .rintro _ _ ⟨rfl,rfl,_⟩;exact Ha hq
theorem zrp{a b:aH}{ka kb:List (b7×aD)}{Q:aD->ay->Prop}(ha:s.heap.DictOf (strKind prog w) a ka)(hb:s.heap.DictOf (strKind prog w) b kb)(Lk:(a==dS)=ai)(Es:(b==dS)=ai)(hu:A.units<f6)(Ct:ka.length=kb.length)
  (hv:∀p∈ka,∃v,gU kb p.1=ae v/\rz A.in1 s p.2 v ag)(hq:Q (.bool ag) s):aI (bq prog w) A (gB .Eq (.ref a) (.ref b)) Q E s:=by
 have HQ:s.TypeIs (.ref a) "dict":=ha.typeIs;have LV:s.TypeIs (.ref b) "dict":=hb.typeIs;refine gV (op:=.Eq) HQ LV mq (Hg mq HQ PySem.F.entry_dict_eq ?_ (PySem.F.args_dict_eq_2 _ _)) hu;have Db:mM (.type "dict") (.type "dict")=b9 ag:=called_dict.sub;unfold dM.«dict.__eq__»;show aI _ _ (iu "__eq__" _ >>= _) _ _ _;refine G9 (G9 (g8 HQ ?_));refine cQ (a:=(cO a,cO b)) rfl (G9 (gm LV Db ?_));refine d9 (λh=>absurd h (by decide)) λ_=>G9 (cQ (a:=a) rfl ?_);refine G9 (cQ (a:=b) rfl ?_);refine G9 (zeQ ha hb Lk Es Ct hv ?_);exact Ha (zz _ rfl (λh=>nomatch h) hq)
theorem zjH{a b:aH}{ka kb:List (b7×aD)}{Q:aD->ay->Prop}(ha:s.heap.DictOf (strKind prog w) a ka)(hb:s.heap.DictOf (strKind prog w) b kb)(Lk:(a==dS)=ai)(Es:(b==dS)=ai)(hu:A.units<f6)(Ct:ka.length=kb.length)
  (hv:∀p∈ka,∃v,gU kb p.1=ae v/\rz A.in1 s p.2 v ag)(hq:Q (.bool ai) s):aI (bq prog w) A (gB .NotEq (.ref a) (.ref b)) Q E s:=by
 have HQ:s.TypeIs (.ref a) "dict":=ha.typeIs;have LV:s.TypeIs (.ref b) "dict":=hb.typeIs;refine gV (op:=.NotEq) HQ LV mu (Hg mu HQ PySem.F.entry_dict_ne ?_ (PySem.F.args_dict_ne_2 _ _)) hu;have Db:mM (.type "dict") (.type "dict")=b9 ag:=called_dict.sub;unfold dM.«dict.__ne__»;show aI _ _ (iu "__ne__" _ >>= _) _ _ _;refine G9 (G9 (g8 HQ ?_));refine cQ (a:=(cO a,cO b)) rfl (G9 (gm LV Db ?_));refine d9 (λh=>absurd h (by decide)) λ_=>G9 (cQ (a:=a) rfl ?_);refine G9 (cQ (a:=b) rfl ?_);refine G9 (zeQ ha hb Lk Es Ct hv ?_);exact Ha (zz _ rfl (λh=>nomatch h) hq)
end
def Bm(U:su)(fs gs:List (Nat×AV)):Prop:=fs.length=gs.length/\∀f∈fs,∃y dx dy,kF gs f.1=ae y/\Rd U f.2 dx/\Rd U y dy/\dx.depth<=100/\aU dx dy=ag
theorem zvD(L:sK X d A)(a:At X U s)(e1:U p=ae (.idict fs))(e2:U q=ae (.idict gs))(h:Bm (sC U) fs gs)(hq:Q (.bool ag) s)(GZ:Q' (.bool ai) s) :
  aI X.M A (gB .Eq (.ref p) (.ref q)) Q E s/\aI X.M A (gB .NotEq (.ref p) (.ref q)) Q' E s:=by
 have room:=L.room;refine zM (a.rep _ _ e1) λka hA sa la ya=>zM (a.rep _ _ e2) λkb hB sb lb yb=>?_;have go:∀{ka:List (b7×aD)} {fs:List (Nat×AV)},SX U s.heap ka fs->(∀f∈fs,∃y dx dy,kF gs f.1=ae y/\Rd (sC U) f.2 dx/\Rd (sC U) y dy/\dx.depth<=100/\aU dx dy=ag)->∀p∈ka,∃v,gU kb p.1=ae v/\rz A.in1 s p.2 v ag:=by
  intro ka fs t
  induction t with
  | nil=>exact λ_ _ h=>nomatch h
  | cons hk r t ih=>
   intro hf p hp
   rcases List.mem_cons.mp hp with rfl|hp
   .refine jB (hf _ aj) λy dx dy hy rx ry hd he=>?_
    rcases sb.get hk with⟨_,h2⟩|⟨v,x,h1,h2,rv⟩
    .rw[h2] at hy;exact nos hy
    .rw[h2] at hy;cases hy;refine zf v h1 ?_;obtain⟨⟨as1,r1⟩,c1⟩:=rx.reads a r;obtain⟨⟨as2,r2⟩,c2⟩:=ry.reads a rv;rw[<-he];refine lD _ _ _ _ _ _ _ _ r1 r2 c1 c2 ?_;have hm:=fj dx.depth dy.depth;have:A.in1.units<=A.units+1:=by first|exact ar _|exact cG _|(unfold Around.in1;simp)
     lia
   .exact ih (λf Qq=>hf f (al _ Qq)) p hp
 have hu:A.units<f6:=zwP room;have hl:ka.length=kb.length:=by rw[sa.length,sb.length];exact h.1
 exact⟨zrp hA hB ya yb hu hl (go sa h.2) hq,zjH hA hB ya yb hu hl (go sa h.2) GZ⟩
noncomputable def AV.isNone(v:AV):Bool:=ch v.ctorIdx 0
@[irreducible] noncomputable def tV(a b:AV)(Q:Bool->su->Prop)(U:su):Prop:=(∃x y,Rd U a x/\Rd U b y/\x.depth<=100/\Q (aU x y) U)\/∃p q fs gs,a = .ref p/\b = .ref q/\U p=ae (.idict fs)/\U q=ae (.idict gs)/\Bm U fs gs/\Q ag U
@[irreducible] noncomputable def xS(a b:AV)(Q:Bool->su->Prop)(U:su):Prop:=∃x y t,Rd U a x/\Rd U b y/\x.depth<=100/\uc x y=ae t/\Q t U
@[irreducible] noncomputable def uS(x c:AV)(Q:Bool->su->Prop)(U:su):Prop:=∃ds d,(Rd U c (.list ds)\/Rd U c (.tuple ds))/\Rd U x d/\bf ds<=100/\Q (ds.any λy=>aU y d) U
@[irreducible] noncomputable def inR(x:AV)(p:aH)(Q:Bool->su->Prop)(U:su):Prop:=(∃kvs k,U p=ae (.tdict kvs)/\x=zE k/\Q (sP.at kvs k).isSome U)\/(∃fs n,U p=ae (.idict fs)/\x = .str n/\Q (kF fs n).isSome U)\/uS x (.ref p) Q U
def Ae(a b:AV)(Q:Bool->su->Prop)(U:su):Prop:=
 a.intE (a.strE (tV a b Q U) λn=>b.strE (tV a b Q U) λm=>Q (ch n m) U) λi=>b.intE (tV a b Q U) λj=>Q (decide (i=j)) U
def yK(x c:AV)(Q:Bool->su->Prop)(U:su):Prop:=c.refE (uS x c Q U) λp=>inR x p Q U
def ltF(a b:AV)(Q:Bool->su->Prop)(U:su):Prop:=a.intE (xS a b Q U) λi=>zw b.int? λj=>Q (decide (i<j)) U
def Cn(op:mZ)(a b:AV)(Q:Bool->su->Prop)(U:su):Prop:=match op with|.Eq=>Ae a b Q U|.NotEq=>Ae a b (λt U'=>Q (!t) U') U|.Lt=>ltF a b Q U|.LtE=>kI a b λi j=>Q (decide (i<=j)) U|.Gt=>kI a b λi j=>Q (decide (i>j)) U|.GtE=>kI a b λi j=>Q (decide (i>=j)) U|.In=>yK a b Q U|.NotIn=>yK a b (λt U'=>Q (!t) U') U|.Is=>uh b.isNone (Q a.isNone U)|.IsNot=>uh b.isNone (Q (!a.isNone) U)
section
variable{X:Cx}{A:bn}{U:su}{s:ay}{E:aD->ay->Prop}{d:Dp}{x y:AV}{u v:aD}
theorem zde(rx:sv U s.heap x u)(h:R x.isNone s):aI X.M A (isSame u .none) R E s:=by
 cases rx<;>exact Ha h
theorem zc4(a:At X U s)(q:R t (sC U)):sW X U s R t s:=(zz U a (.refl ..) q)
def xG(X:Cx)(U:su)(s:ay)(R:Bool->su->Prop):aD->ay->Prop:=λw s'=>∃t,w = .bool t/\sW X U s R t s'
theorem zfk(L:sK X d A)(a:At X U s)(rx:sv U s.heap x u)(ry:sv U s.heap y v)(q:uS x y R (sC U)):aI X.M A (dq .In u v) (xG X U s R) E s:=by
 have room:=L.room;unfold uS at q;obtain⟨ds,dd,hc,hx,Dd,q⟩:=q;obtain⟨⟨as,r1⟩,kd⟩:=hx.reads a rx;have hu:A.units+1+fk (bf ds) dd.depth<f6:=by
  have:fk (bf ds) dd.depth<=bf ds:=fj _ _;exact zg 0xd220e120a528000064904061a402ee240a5006 rfl room Dd
 rcases hc with hc|hc
 .obtain⟨⟨bs,r2⟩,kc⟩:=hc.reads a ry;exact in_list_reads r2 r1 (by simpa only[bU] using kc) kd hu (zf _ rfl (zc4 a q))
 .obtain⟨⟨bs,r2⟩,kc⟩:=hc.reads a ry;exact in_tuple_reads r2 r1 (by simpa only[bU] using kc) kd hu (zf _ rfl (zc4 a q))
theorem zis(h:sB X U s (λv U'=>∃t,v = .bool t/\R t U') w s'):xG X U s R w s':=by
 refine ziN h λav U' r a' st t HV q=>?_;subst HV;obtain rfl:=sv.wP r;exact zho t rfl U' a' st q
theorem zhq(L:sK X d A)(a:At X U s)(rx:sv U s.heap x u)(ry:sv U s.heap y v)(q:yK x y R (sC U)):aI X.M A (dq .In u v) (xG X U s R) E s:=by
 cases y with
 | ref p=>
  have qr:inR x p R (sC U):=q;clear q;unfold inR at qr
  rcases qr with⟨kvs,k,hp,rfl,q⟩|⟨fs,n,hp,rfl,q⟩|q
  .obtain rfl:=sv.wK ry;exact Hb (ztW (Q:=λv U'=>∃t,v = .bool t/\R t U') L a (zH hp).1 rx (zf _ rfl q)) (λw s' h=>zis h) λ_ _ e=>e
  .obtain rfl:=sv.wK ry;exact Hb (zvE (Q:=λv U'=>∃t,v = .bool t/\R t U') a (zH hp).1 rx (zf _ rfl q)) (λw s' h=>zis h) λ_ _ e=>e
  .exact zfk L a rx ry q
 | _=>exact zfk L a rx ry q
theorem zhf(L:sK X d A)(a:At X U s)(rx:sv U s.heap x u)(ry:sv U s.heap y v)(q:Ae x y R (sC U)) :
  aI X.M A (dq .Eq u v) (λw s'=>∃t,w = .bool t/\sW X U s R t s') E s/\aI X.M A (dq .NotEq u v) (λw s'=>∃t,w = .bool (!t)/\sW X U s R t s') E s:=by
 have room:=L.room;have Dj:tV x y R (sC U)->aI X.M A (dq .Eq u v) (λw s'=>∃t,w = .bool t/\sW X U s R t s') E s/\aI X.M A (dq .NotEq u v) (λw s'=>∃t,w = .bool (!t)/\sW X U s R t s') E s:=by
  intro q;unfold tV at q
  rcases q with q|⟨p',q',fs,gs,rfl,rfl,e1,e2,hs,q⟩
  rotate_left
  .obtain rfl:=sv.wK rx;obtain rfl:=sv.wK ry;exact zvD L a (zH e1).1 (zH e2).1 hs (zf _ rfl (zc4 a q)) (zf _ rfl (zc4 a q))
  refine zj q λda db h1 h2 k1 q=>?_;obtain⟨⟨as,r1⟩,c1⟩:=h1.reads a rx;obtain⟨⟨bs,r2⟩,c2⟩:=h2.reads a ry;have hm:fk da.depth db.depth<=da.depth:=fj _ _;exact⟨compareEq_reads r1 r2 c1 c2 (zyd room k1) (zf _ rfl (zc4 a q)),compareNe_reads r1 r2 c1 c2 (zyd room k1) (zf _ rfl (zc4 a q))⟩
 cases x with
 | int i=>
  cases y with
  | int j=>
   refine Dj ?_;unfold tV;left;refine zq _ _ (.int i) (.int j) (aE 100) ?_;have e:aU (.int i) (.int j)=decide (i=j):=by
    simp only[aU]
    by_cases h:i=j
    .rw[H3 h,beq_iff_eq.mpr h]
    .rw[H0 h,beq_eq_false_iff_ne.mpr h]
   exact q
  | _=>exact Dj q
 | str n=>
  cases y with
  | str m=>
   refine Dj ?_;unfold tV;left;refine zq _ _ (.str n) (.str m) (aE 100) ?_;cases rx with
   | str hn t=>
    refine za (sv.wL ry) λt' Dy hm=>?_;subst Dy;have e:aU (.str (zC n)) (.str (zC m))=ch n m:=by
     rw[zo5];simp only[aU]
     by_cases h:n=m
     .subst h;rw[H3 rfl,beq_iff_eq.mpr rfl]
     .rw[H0 h,beq_eq_false_iff_ne.mpr λe=>h (ko hn hm e)]
    rw[e];exact q
  | _=>exact Dj q
 | _=>exact Dj q
theorem zbo(L:sK X d A)(a:At X U s)(rx:sv U s.heap x u)(ry:sv U s.heap y v)(q:Cn op x y R (sC U)):aI X.M A (dq op u v) (xG X U s R) E s:=by
 have room:=L.room;have two:∀{K:Int->Int->Prop},kI x y K->∃i j t t',x = .int i/\y = .int j/\u = .int i t/\v = .int j t'/\K i j:=λq=>by
  refine za (zh q) λi h1 q=>za (zh q) λj h2 q=>?_;have h1:=jv h1;have h2:=jv h2;subst h1;subst h2;obtain⟨_,rfl⟩:=sv.wC rx;obtain⟨_,rfl⟩:=sv.wC ry;exact qj i j _ _ rfl rfl rfl rfl q
 have neg:∀{w:aD} {s':ay},(∃t,w = .bool (!t)/\sW X U s (λt U'=>R (!t) U') t s')->xG X U s R w s':=λ{w s'} h=>by
  exact zap h λt e U' a' st q=>zho (!t) e U' a' st q
 cases op with
 | Eq=>exact(zhf L a rx ry q).1
 | NotEq=>
  have q:Ae x y (λt U'=>R (!t) U') (sC U):=q;exact Hb (zhf L a rx ry q).2 (λw s' h=>neg h) λ_ _ e=>e
 | Lt=>
  have Dj:xS x y R (sC U)->aI X.M A (dq .Lt u v) (xG X U s R) E s:=by
   intro q;unfold xS at q;refine jB q λda db t h1 h2 k1 ht q=>?_;obtain⟨⟨as,r1⟩,c1⟩:=h1.reads a rx;obtain⟨⟨bs,r2⟩,c2⟩:=h2.reads a ry;exact zhG da db r1 r2 c1 c2 (zCf room k1) ht _ _ _ _ (zf _ rfl (zc4 a q))
  cases x with
  | int i=>
   refine za (zh q) λj h2 q=>?_;have h2:=jv h2;subst h2;obtain⟨_,rfl⟩:=sv.wC rx;obtain⟨_,rfl⟩:=sv.wC ry;exact P.lt_int (zf _ rfl (zc4 a q))
  | _=>exact Dj q
 | LtE=>refine jb (two q) λi j t t' K9 KQ JR LQ q=>?_;subst K9;subst KQ;subst JR;subst LQ;exact P.le_int ⟨_,rfl,zc4 a q⟩
 | Gt=>refine jb (two q) λi j t t' L5 Li JL JA q=>?_;subst L5;subst Li;subst JL;subst JA;exact P.gt_int ⟨_,rfl,zc4 a q⟩
 | GtE=>refine jb (two q) λi j t t' Jz K7 Le Kt q=>?_;subst Jz;subst K7;subst Le;subst Kt;exact P.ge_int ⟨_,rfl,zc4 a q⟩
 | In=>exact zhq L a rx ry q
 | NotIn=>
  have q:yK x y (λt U'=>R (!t) U') (sC U):=q;refine zmq (zhq L a rx ry q) λt s' h=>zap h λt' e U' a' st q=>?_;cases e;exact⟨_,rfl,U',a',st,q⟩
 | Is=>
  obtain⟨h,q⟩:=qX q;cases y with
  | none=>obtain rfl:=sv.wN ry;exact G9 (zde rx (Ha (zf _ rfl (zc4 a q))))
  | _=>exact nob h
 | IsNot=>
  obtain⟨h,q⟩:=qX q;cases y with
  | none=>obtain rfl:=sv.wN ry;exact G9 (zde rx (Ha (zf _ rfl (zc4 a q))))
  | _=>exact nob h
end
namespace A
def zu7(r:Bool)(op:pS)(Q:zt)(a:AV):zt:=λb σ2=>Bl r op a b Q σ2
def zza(r:Bool)(op:pS)(y:AE)(d:Dp)(l:Loc)(Q:zt)(Z:XP):zt:=λa σ1=>y d l (zu7 r op Q a) Z σ1
def kOr(y:AE)(d:Dp)(l:Loc)(Q:zt)(Z:XP):zt:=λa σ1=>zw a.bool? λb=>cB b (Q (.bool ag) σ1) (y d l Q Z σ1)
def zy8(y:AE)(d:Dp)(l:Loc)(Q:zt)(Z:XP):zt:=λa σ1=>zw a.bool? λb=>cB b (y d l Q Z σ1) (Q (.bool ai) σ1)
def zzj(Q:zt):zt:=λa σ1=>zw a.bool? λb=>Q (.bool (!b)) σ1
def zzi(Q:zt):zt:=λa σ1=>zw a.int? λi=>Q (.int (-i)) σ1
def bin(r:Bool)(op:pS)(x y:AE):AE:=λd l Q Z U=>x d l (zza r op y d l Q Z) Z U
def neg(x:AE):AE:=λd l Q Z U=>x d l (zzi Q) Z U
def wO(x:AE):AE:=λd l Q Z U=>x d l (zzj Q) Z U
def vJ(x y:AE):AE:=λd l Q Z U=>x d l (zy8 y d l Q Z) Z U
def or_(x y:AE):AE:=λd l Q Z U=>x d l (kOr y d l Q Z) Z U
def zzb(b:AV)(F:AV->su->Prop)(e:Bool)(Q:zt)(t:Bool)(σ2:su):Prop:=match e with|true=>Q (.bool t) σ2|false=>cB t (F b σ2) (Q (.bool ai) σ2)
def zta(o:mZ)(a:AV)(F:AV->su->Prop)(e:Bool)(Q:zt):zt:=λb σ1=>Cn o a b (zzb b F e Q) σ1
def w8(d:Dp)(l:Loc)(Q:zt)(Z:XP)(a:AV)(ops:List (mZ×AE))(U:su):Prop:=match ops with|[]=>False|o::r=>o.2 d l (zta o.1 a (λb σ2=>w8 d l Q Z b r σ2) r.isEmpty Q) Z U
def zu9(ops:List (mZ×AE))(d:Dp)(l:Loc)(Q:zt)(Z:XP):zt:=λa σ1=>w8 d l Q Z a ops σ1
def cmp(x:AE)(ops:List (mZ×AE)):AE:=λd l Q Z U=>x d l (zu9 ops d l Q Z) Z U
end A
section
variable{X:Cx}{env:fB}{nm:List (b7×Nat)}
theorem zmJ(h1:zi X env nm e1 m1)(h2:zi X env nm e2 m2):zi X env nm (.BinOp e1 op e2 pos) (A.bin r op m1 m2):=λd A l U s Q Z L a F q=>
 wpAny_BinOp (zak (h1 d A l U s _ Z L a F q) λav v σ1 s1 rv a1 st1 q1=>
  Hb (h2 d A l σ1 s1 _ Z L a1 (F.step a st1) q1) (λv2 s2 Dl=>zj Dl λJV σ2 Ev a2 Cy q2=>jN (st1.trans Cy) (zlj a2 (rv.mono (Cy.keepV0 a1)) Ev q2)) λ_ _ x=>x.back st1)
theorem zmZ(h:zi X env nm e m):zi X env nm (.UnaryOp .USub e pos) (A.neg m):=λd A l U s Q Z L a F q=>by
 refine G9 (zak (h d A l U s _ Z L a F q) λav v σ1 s1 rv a1 st1 CE=>?_);refine za (zh CE) λi hi q1=>?_;have hi:=jv hi;subst hi;obtain⟨_,rfl⟩:=sv.wC rv;exact G9 (Hj (Hc (P.neg_int (sB.back st1 (zaj a1 (.int _ _) q1)))))
theorem zm1(h:zi X env nm e m):zi X env nm (.UnaryOp .Not e pos) (A.wO m):=λd A l U s Q Z L a F q=>by
 refine G9 (zak (h d A l U s _ Z L a F q) λav v σ1 s1 rv a1 st1 CE=>?_);refine za (zh CE) λb hb q1=>?_;have hb:=za2 hb;subst hb;obtain rfl:=sv.wP rv;refine G9 (Hj (Hc ?_));exact Hc (G9 (cx (Ha (sB.back st1 (zb0 a1 (.bool _) q1)))))
theorem zjS(h:qR X env nm e m):qR X env nm (.UnaryOp .Not e pos) (A.wO m):=λd A l U s Q Z L a F q=>by
 exact G9 (Hb (h d A l U s (λb σ1=>Q (!b) σ1) Z L a F q) (λb s1 Dl=>zl Dl λσ1 a1 st1 q1=>Ha (zz σ1 a1 st1 q1)) λ_ _ x=>x)
def kr(ms:List AE):AE:=match ms with
 | []=>λ_ _ _ _ _=>False
 | x::r=>match r with|[]=>x|_::_=>A.vJ x (kr r)
def tK(ms:List AE):AE:=match ms with
 | []=>λ_ _ _ _ _=>False
 | x::r=>match r with|[]=>x|_::_=>A.or_ x (tK r)
inductive sS(X:Cx)(env:fB)(nm:List (b7×Nat)):List Expr->List AE->Prop
 | nil:sS X env nm [] []
 | cons {e es m ms}:zi X env nm e m->qR X env nm e m->sS X env nm es ms->sS X env nm (e::es) (m::ms)
theorem zmI(h:sS X env nm es ms):zi X env nm (.BoolOp .And es pos) (kr ms):=by
 induction h with
 | nil=>intro d A l U s Q Z L a F q;exact q.elim
 | @cons e es m ms h hb r ih=>
  intro d A l U s Q Z L a F q;show aI X.M A (boolOp pos .And (pV (e::es) env)) _ _ s;cases r with
  | nil=>exact h d A l U s Q Z L a F q
  | @cons e2 es m2 ms h2 Fk r=>
   refine G9 (zak (h d A l U s _ Z L a F q) λav v σ1 s1 rv a1 st1 CE=>?_);refine za (zh CE) λb Dv q1=>?_;have Dv:=za2 Dv;subst Dv;obtain rfl:=sv.wP rv;refine G9 (Hj (G9 (Hc (cx ?_))));cases b with
   | false=>exact Ha (sB.back st1 (zb0 a1 (.bool _) q1))
   | true=>exact jN st1 (ih d A l σ1 s1 Q Z L a1 (F.step a st1) q1)
theorem zpK(h:sS X env nm es ms):zi X env nm (.BoolOp .Or es pos) (tK ms):=by
 induction h with
 | nil=>intro d A l U s Q Z L a F q;exact q.elim
 | @cons e es m ms h hb r ih=>
  intro d A l U s Q Z L a F q;show aI X.M A (boolOp pos .Or (pV (e::es) env)) _ _ s;cases r with
  | nil=>exact h d A l U s Q Z L a F q
  | @cons e2 es m2 ms h2 Fk r=>
   refine G9 (zak (h d A l U s _ Z L a F q) λav v σ1 s1 rv a1 st1 CE=>?_);refine za (zh CE) λb Dv q1=>?_;have Dv:=za2 Dv;subst Dv;obtain rfl:=sv.wP rv;refine G9 (Hj (G9 (Hc (cx ?_))));cases b with
   | true=>exact Ha (sB.back st1 (zb0 a1 (.bool _) q1))
   | false=>exact jN st1 (ih d A l σ1 s1 Q Z L a1 (F.step a st1) q1)
theorem zjQ(h:sS X env nm es ms):qR X env nm (.BoolOp .And es pos) (kr ms):=by
 induction h with
 | nil=>intro d A l U s Q Z L a F q;exact q.elim
 | @cons e es m ms h hb r ih=>
  intro d A l U s Q Z L a F q;show aI X.M A (allTrue .And (e::es) env) _ _ s;cases r with
  | nil=>
   refine G9 (Hb (hb d A l U s Q Z L a F q) (λb s1 x=>?_) λ_ _ x=>x);cases b with
   | false=>exact Ha x
   | true=>exact Ha x
  | @cons e2 es m2 ms h2 Fk r=>
   refine G9 (Hb (hb d A l U s (λb σ1=>cB b (kr (m2::ms) d l (vp Q) Z σ1) (Q ai σ1)) Z L a F q) (λb s1 x=>?_) λ_ _ x=>x);refine zl x λσ1 a1 st1 q1=>?_;cases b with
   | false=>exact Ha (zz σ1 a1 st1 q1)
   | true=>exact zfh st1 (ih d A l σ1 s1 Q Z L a1 (F.step a st1) q1)
theorem zmF(h:sS X env nm es ms):qR X env nm (.BoolOp .Or es pos) (tK ms):=by
 induction h with
 | nil=>intro d A l U s Q Z L a F q;exact q.elim
 | @cons e es m ms h hb r ih=>
  intro d A l U s Q Z L a F q;show aI X.M A (allTrue .Or (e::es) env) _ _ s;cases r with
  | nil=>
   refine G9 (Hb (hb d A l U s Q Z L a F q) (λb s1 x=>?_) λ_ _ x=>x);cases b with
   | false=>exact Ha x
   | true=>exact Ha x
  | @cons e2 es m2 ms h2 Fk r=>
   refine G9 (Hb (hb d A l U s (λb σ1=>cB b (Q ag σ1) (tK (m2::ms) d l (vp Q) Z σ1)) Z L a F q) (λb s1 x=>?_) λ_ _ x=>x);refine zl x λσ1 a1 st1 q1=>?_;cases b with
   | true=>exact Ha (zz σ1 a1 st1 q1)
   | false=>exact zfh st1 (ih d A l σ1 s1 Q Z L a1 (F.step a st1) q1)
inductive sR(X:Cx)(env:fB)(nm:List (b7×Nat)):List mZ->List Expr->List (mZ×AE)->Prop
 | one {op e m}:zi X env nm e m->behindInMarks op e=ai->sR X env nm [op] [e] [(op,m)]
 | cons {op e m M8 ops es m2 ms}:zi X env nm e m->sR X env nm (M8::ops) es (m2::ms)->sR X env nm (op::M8::ops) (e::es) ((op,m)::m2::ms)
theorem wp_release(h:Q () s):aI M A (release vs keep) Q E s:=λΓ p hΓ=>by rw[Sem.wp_release];exact h
theorem zg6{ops es ms}(h0:sR X env nm ops es ms):∀{d A l U s Q Z av v},sK X d A->At X U s->FR X env nm l U s.heap->sv U s.heap av v->Mine.Internal.A.w8 d l Q Z av ms (sC U)->
  aI X.M A (compareChain pos v ops (markedEach ops es (pV es env))) (sB X U s Q) (sE X U s Z) s:=by
 induction h0 with
 | @one op e m h hm=>
  intro d A l U s Q Z av v L a F rv q;show aI X.M A (do let rv <-holding [v] (markedBehindIn op e (fm e env));pF pos;operate [v,rv] (dq op v rv)) _ _ s;rw[kV hm];refine G9 (Hc (zak (h d A l U s _ Z L a F q) λJV v2 σ1 s1 Ev a1 st1 q1=>?_));refine G9 (Hj ?_);refine jN st1 (G9 (Hc (Hb (zbo L a1 (rv.mono (st1.keepV0 a)) Ev q1) (λr s2 x=>?_) λ_ _ x=>x)));refine zap x λt Dy σ2 a2 Cy q2=>?_;subst Dy;exact G9 (wp_release (Ha (zq _ σ2 (.bool t) a2 Cy q2)))
 | @cons op e m M8 ops es m2 ms h hr ih=>
  intro d A l U s Q Z av v L a F rv q;refine G9 (Hc (zak (h d A l U s _ Z L a F q) λJV v2 σ1 s1 Ev a1 st1 q1=>?_));refine G9 (Hj ?_);refine jN st1 (G9 (Hc (Hb (zbo L a1 (rv.mono (st1.keepV0 a)) Ev q1) (λc s2 x=>?_) λ_ _ x=>x)));refine zap x λt Ee σ2 a2 Cy q2=>?_;subst Ee;refine G9 (wp_release ?_);refine G9 (Hc (cx ?_));cases t with
  | false=>exact Ha (sB.back Cy (zb0 a2 (.bool _) q2))
  | true=>exact jN Cy (ih L a2 ((F.step a st1).step a1 Cy) (Ev.mono (Cy.keepV0 a1)) q2)
theorem zmK{ops es ms}(h:zi X env nm e m)(hr:sR X env nm ops es ms):zi X env nm (.Compare e ops es pos) (A.cmp m ms):=λd A l U s Q Z L a F q=>by
 refine G9 (zak (h d A l U s _ Z L a F q) λav v σ1 s1 rv a1 st1 q1=>?_);exact jN st1 (zg6 hr L a1 (F.step a st1) rv q1)
theorem zdw{ops es ms}(h0:sR X env nm ops es ms):∀{d A l U s Q Z av v},sK X d A->At X U s->FR X env nm l U s.heap->sv U s.heap av v->Mine.Internal.A.w8 d l (vp Q) Z av ms (sC U)->
  aI X.M A (testChain pos v ops (markedEach ops es (pV es env))) (sW X U s Q) (sE X U s Z) s:=by
 induction h0 with
 | @one op e m h hm=>
  intro d A l U s Q Z av v L a F rv q;show aI X.M A (do let rv <-holding [v] (markedBehindIn op e (fm e env));pF pos;let c <-operate [v,rv] (dq op v rv);holding [c] (truthy c)) _ _ s;rw[kV hm];refine G9 (Hc (zak (h d A l U s _ Z L a F q) λJV v2 σ1 s1 Ev a1 st1 q1=>?_));refine G9 (Hj ?_);refine zfh st1 (G9 (G9 (Hc (Hb (zbo L a1 (rv.mono (st1.keepV0 a)) Ev q1) (λr s2 CE=>?_) λ_ _ x=>x))));refine zap CE λt FD σ2 a2 Cy q2=>?_;subst FD;exact G9 (wp_release (Ha (Hc (cx (zz σ2 a2 Cy q2)))))
 | @cons op e m M8 ops es m2 ms h hr ih=>
  intro d A l U s Q Z av v L a F rv q;refine G9 (Hc (zak (h d A l U s _ Z L a F q) λJV v2 σ1 s1 Ev a1 st1 q1=>?_));refine G9 (Hj ?_);refine zfh st1 (G9 (Hc (Hb (zbo L a1 (rv.mono (st1.keepV0 a)) Ev q1) (λc s2 CE=>?_) λ_ _ x=>x)));refine zap CE λt Dn σ2 a2 Cy q2=>?_;subst Dn;refine G9 (wp_release ?_);refine G9 (Hc (cx ?_));cases t with
  | false=>exact Ha (zz σ2 a2 Cy q2)
  | true=>exact zfh Cy (ih L a2 ((F.step a st1).step a1 Cy) (Ev.mono (Cy.keepV0 a1)) q2)
theorem zjR{ops es ms}(h:zi X env nm e m)(hr:sR X env nm ops es ms):qR X env nm (.Compare e ops es pos) (A.cmp m ms):=λd A l U s Q Z L a F q=>by
 refine G9 (zak (h d A l U s _ Z L a F q) λav v σ1 s1 rv a1 st1 q1=>?_);exact zfh st1 (zdw hr L a1 (F.step a st1) rv q1)
end
noncomputable def jM{V:Type}(xs:List V)(k:Int):Option V:=if 0<=k then xs[k.toNat]? else if -(xs.length:Int)<=k then xs[(k+xs.length).toNat]? else af
@[irreducible] noncomputable def uP(p:aH)(b:AV)(Q:zt)(U:su):Prop:=(∃xs k v,U p=ae (.list xs)/\b = .int k/\jM xs k=ae v/\Q v U)\/(∃kvs k v,U p=ae (.tdict kvs)/\b=zE k/\sP.at kvs k=ae v/\Q v U)\/(∃fs n v,U p=ae (.idict fs)/\b = .str n/\kF fs n=ae v/\Q v U)
def Cb(b:AV)(Q:zt)(U:su)(xs:List AV):Prop:=zw b.int? λk=>zw (jM xs k) λv=>Q v U
def Bz(a b:AV)(Q:zt)(U:su):Prop:=a.refE (a.tupE (a.lstE False (Cb b Q U)) (Cb b Q U)) λp=>uP p b Q U
theorem jE(hp:U p=ae (.list xs))(h:zw (jM xs k) λv=>Q v U):uP p (.int k) Q U:=by
 refine za (zh h) λv e q=>?_;unfold uP;exact .inl (jY xs k v hp rfl e q)
theorem zcj(hp:U p=ae (.tdict kvs))(e:sP.at kvs k=ae v)(q:Q v U):uP p (zE k) Q U:=by
 unfold uP;exact .inr (.inl (jY kvs k v hp rfl e q))
theorem zJ(hp:U p=ae (.idict fs))(h:zw (kF fs n) λv=>Q v U):uP p (.str n) Q U:=by
 refine za (zh h) λv e q=>?_;unfold uP;exact .inr (.inr (jY fs n v hp rfl e q))
noncomputable def cut(xs:List AV)(lo hi:Option Int):List AV:=(xs.drop (lo.elim 0 (pW xs.length))).take (hi.elim xs.length (pW xs.length)-lo.elim 0 (pW xs.length))
def C6(xs:List AV)(lo hi:Option Int)(Q:zt)(U:su):Prop:=match hi with|none=>zw lo λk=>uh (decide (1<=k)&&ly k.toNat xs.length) (Q (.tup (xs.drop k.toNat)) U)|some _=>False
def ztS(r:Bool)(a:AV)(lo hi:Option Int)(Q:zt)(U:su):Prop:=a.tupE (zw (jq U a) λxs=>tO r (cut xs lo hi) Q U) λxs=>C6 xs lo hi Q U
section
variable{X:Cx}{A:bn}{U:su}{s:ay}{Q:zt}{E:aD->ay->Prop}{d:Dp}
theorem zfg(r:sw U h xs vs)(e:jM xs k=ae x):∃v,sv U h x v/\((0<=k/\vs[k.toNat]? = ae v)\/(k<0/\-(vs.length:Int)<=k/\vs[(k+vs.length).toNat]? = ae v)):=by
 unfold jM at e;split at e
 .exact za (r.get e) λv h1 h2=>zf v h2 (.inl ⟨by assumption,h1⟩)
 .split at e
  .refine za (r.get e) λv h1 h2=>?_;rw[r.length] at h1
   rename_i h3 h4
   rw[r.length] at h4;exact zf v h2 (.inr (zu (y42 h3) h4 h1))
  .exact absurd (d6 e) (aA _)
theorem zgE(hx:x = .tup xs\/IsL U x xs)(a:At X U s)(rx:sv U s.heap x u)(hy:jM xs k=ae y)(q:Q y (sC U)) :
  aI X.M A (pH u (.int k tk)) (sB X U s Q) E s/\∃T id,s.TypeIs u T/\lH (.type T) "__getitem__" = b9 (ae (.builtin id)):=by
 rcases hx with rfl|hx
 .refine zj (sv.wI rx) λt vs Dk hl ht rs=>?_;subst Dk;refine za (zfg rs hy) λw tI hw=>?_;have Ct:=rs.length;refine zgb ?_ ("tuple") _ ht.typeIs slot_tuple_getitem.lookup
  rcases hw with⟨h1,h2⟩|⟨h1,h2,h3⟩
  .have h4:k.toNat<vs.length:=(List.getElem?_eq_some_iff.mp h2).1;exact getItem_tuple ht (by lia) (by lia) (seqIndex_of h1 (by simp;exact k9 0xca43408121dd006 rfl h4)) (by simpa using h2) (zb0 a tI q)
  .exact getItem_tuple ht (by lia) (by lia) (seqIndex_neg h1 (by simpa using h2)) (by simpa using h3) (zb0 a tI q)
 .refine zv (a.isList hx rx) λp vs DB _ hl rs hm=>?_;subst DB;refine za (zfg rs hy) λw tI hw=>?_;have Ct:=rs.length;refine zgb ?_ ("list") _ hl.typeIs slot_list_getitem.lookup
  rcases hw with⟨h1,h2⟩|⟨h1,h2,h3⟩
  .have h4:k.toNat<vs.length:=(List.getElem?_eq_some_iff.mp h2).1;exact wpAny_getItem_list hl h1 (by lia) (by simpa using h2) (zb0 a tI q)
  .exact wpAny_getItem_list_neg hl h1 (by simpa using h2) (by lia) (by simpa using h3) (zb0 a tI q)
theorem ze5(L:sK X dp A)(a:At X U s)(rx:sv U s.heap x u)(ri:sv U s.heap i v)(q:Bz x i Q (sC U)) :
  aI X.M A (pH u v) (sB X U s Q) E s/\∃T id,s.TypeIs u T/\lH (.type T) "__getitem__" = b9 (ae (.builtin id)):=by
 cases x with
 | tup xs=>
  refine za (zh q) λk e q1=>za (zh q1) λy hy q2=>?_;have e:=jv e;subst e;obtain⟨_,rfl⟩:=sv.wC ri;exact zgE (.inl rfl) a rx hy q2
 | lst xs=>
  refine za (zh q) λk e q1=>za (zh q1) λy hy q2=>?_;have e:=jv e;subst e;obtain⟨_,rfl⟩:=sv.wC ri;exact zgE (.inr .lst) a rx hy q2
 | ref p=>
  have qr:uP p i Q (sC U):=q;clear q;unfold uP at qr
  rcases qr with⟨xs,k,y,hp,rfl,hy,q⟩|⟨kvs,k,y,hp,rfl,hy,q⟩|⟨fs,n,y,hp,rfl,hy,q⟩
  .obtain⟨_,rfl⟩:=sv.wC ri;exact zgE (.inr (.ref hp)) a rx hy q
  .obtain rfl:=sv.wK rx;have CN:=(zH hp).1;exact za (a.tab CN) λxs hD _=>zgb (zrE L a CN ri hy q) ("dict") _ hD.typeIs slot_dict_getitem.lookup
  .obtain rfl:=sv.wK rx;have CN:=(zH hp).1;exact za (a.rep _ _ CN) λkvs hD _=>⟨ztO a CN ri hy q,"dict",_,hD.mapOf.typeIs,slot_dict_getitem.lookup⟩
 | _=>exact q.elim
theorem sw.cut(r:sw U h xs vs)(lo hi):sw U h (cut xs lo hi) (slicePick vs.toArray lo hi af).toList:=by
 rw[slicePick_plain];unfold Mine.Internal.cut;simp only[aK,r.length];exact(r.drop _).take _
theorem ziM(xs)(lo hi):(cut xs lo hi).length<=xs.length:=by
 unfold cut;rw[dt,eX];exact zc 0x208aa105700 rfl
end
noncomputable def Bc(e:Expr):Bool:=!Nat.beq e.ctorIdx 26
theorem zad(h:Bc e=ag)(o i):subscripted e ai o i=operate [o,i] (pH o i):=by
 cases e<;>first|rfl|exact nob h
namespace A
def zva(Q:zt)(a:AV):zt:=λb σ2=>Bz a b Q σ2
def zzc(i:AE)(d:Dp)(l:Loc)(Q:zt)(Z:XP):zt:=λa σ1=>i d l (zva Q a) Z σ1
def idx(x i:AE):AE:=λd l Q Z U=>x d l (zzc i d l Q Z) Z U
def opt(m:Option AE)(d:Dp)(l:Loc)(Q:Option Int->su->Prop)(Z:XP)(U:su):Prop:=match m with|none=>Q af U|some m=>m d l (λv σ1=>zw v.int? λi=>Q (ae i) σ1) Z U
def wZ(r:Bool)(x:AE)(lo hi:Option AE):AE:=λd l Q Z U=>x d l (λa σ1=>opt lo d l (λSp σ2=>opt hi d l (λEY σ3=>ztS r a Sp EY Q σ3) Z σ2) Z σ1) Z U
end A
noncomputable def yR(X:Cx)(env:fB)(nm:List (b7×Nat)):Option Expr->Option AE->Prop
 | none,af=>True
 | some e,ae m=>zi X env nm e m
 | _,_=>False
section
variable{X:Cx}{env:fB}{nm:List (b7×Nat)}
theorem zmQ(h:zi X env nm e m)(hi:zi X env nm i mi)(hn:Bc i=ag):zi X env nm (.Subscript e i pos) (A.idx m mi):=λd A l U s Q Z L a F q=>by
 refine pX (zak (h d A l U s _ Z L a F q) λav v σ1 s1 rv a1 st1 q1=>?_);refine Hb (hi d A l σ1 s1 _ Z L a1 (F.step a st1) q1) (λv2 s2 CE=>?_) λ_ _ x=>x.back st1;exact zj CE λJV σ2 Ev a2 Cy q2=>zqo (ze5 (A:=A) (E:=sE X σ2 s2 Z) L a2 (rv.mono (Cy.keepV0 a1)) Ev q2) λh1 T id hT hl=>jN (st1.trans Cy) (pY hT hl h1 (zad hn _ _))
theorem zfx(h:yR X env nm e m){d A l U s Q Z}(L:sK X d A)(a:At X U s)(F:FR X env nm l U s.heap)(q:Mine.Internal.A.opt m d l Q Z (sC U))
  (k:∀v o s' U',IsPart v o->At X U' s'->Step E0 U s U' s'->Q o (sC U')->R v s'):aI X.M A (valueOrNone (evalOpt e env)) R (sE X U s Z) s:=by
 cases e with
 | none=>
  cases m with
  | none=>exact Ha (k _ _ _ _ .none a (.refl ..) q)
  | some m=>exact h.elim
 | some e=>
  cases m with
  | none=>exact h.elim
  | some m=>
   refine Hb (h d A l U s _ Z L a F q) (λv s1 CE=>?_) λ_ _ x=>x;refine zj CE λav σ1 rv a1 st1 q1=>za (zh q1) λi hi q1=>?_;have hi:=jv hi;subst hi;obtain⟨_,rfl⟩:=sv.wC rv;exact k _ _ _ _ (.int _ _) a1 st1 q1
theorem zij{r:Bool}{e:Expr}{lo hi:Option Expr}{m:AE}{Pj PB:Option AE}{p pos:pJ}(h:zi X env nm e m)(DV:yR X env nm lo Pj)(FZ:yR X env nm hi PB) :
  zi X env nm (.Subscript e (.Slice lo hi af p) pos) (A.wZ r m Pj PB):=λd A l U s Q Z L a F q=>by
 refine pX (zak (h d A l U s _ Z L a F q) λav v σ1 s1 rv a1 st1 q1=>?_);have F1:=F.step a st1;refine G9 (Hb (zfx DV L a1 F1 q1 (R:=λv2 s2=>∃o σ2,IsPart v2 o/\At X σ2 s2/\Step E0 σ1 s1 σ2 s2/\_) λv2 o s2 σ2 p2 a2 Cy q2=>(zq o σ2 p2 a2 Cy q2)) (λv2 s2 CE=>?_) λ_ _ x=>x.back st1);refine zj CE λo σ2 p2 a2 Cy q2=>?_;have F2:=F1.step a1 Cy;refine G9 (Hc (Hb (zfx FZ L a2 F2 q2 (R:=λv3 s3=>∃o σ3,IsPart v3 o/\At X σ3 s3/\Step E0 σ2 s2 σ3 s3/\_) λv3 o s3 σ3 p3 a3 CI q3=>(zq o σ3 p3 a3 CI q3)) (λv3 s3 CE=>?_) λ_ _ x=>x.back (st1.trans Cy)));refine zj CE λo3 σ3 p3 a3 CI q3=>G9 (Hc (Ha ?_));refine eE ?_;have Oo:=(rv.mono (Cy.keepV0 a1)).mono (CI.keepV0 a2);have Nv:=st1.trans (Cy.trans CI);generalize hso:({ cls:=.type "slice",data:=.fields #[v2,v3,Value.none] }:oz)=so;have CZ:Step E0 σ3 s3 σ3 { s3 with heap:=s3.heap.push so }:=Step.push σ3 s3 so s3.toks;have a4:At X σ3 { s3 with heap:=s3.heap.push so }:=a3.push so s3.toks;have Pn:=Oo.mono (CZ.keepV0 a3);have ON:(s3.heap.push so).IsSliceOf s3.heap.objs.size v2 v3 .none:=by rw[<-hso];exact Heap.IsSliceOf.new ..
 refine jN (Nv.trans CZ) ?_;have hc:(∃xs,av = .tup xs/\C6 xs o o3 Q (sC σ3))\/zw (jq (sC σ3) av) λxs=>tO r (cut xs o o3) Q (sC σ3):=by
  cases av with
  | tup xs=>exact .inl (zf xs rfl q3)
  | _=>exact .inr q3
 clear q3
 rcases hc with⟨xs,rfl,q3⟩|q3
 .cases o3 with
  | some _=>exact q3.elim
  | none=>
   refine za (zh q3) λk FJ q4=>?_;subst FJ;obtain⟨hb,q5⟩:=qX q4;have hb:=Bool.and_eq_true_iff.mp hb;have h2:=ba hb.2;obtain⟨k,rfl⟩:∃n:Nat,k=n:=⟨k.toNat,by lia⟩
   refine zj (sv.wI Pn) λt vs Kj hl ht rs=>?_;subst Kj;cases p2;cases p3;have Ct:=rs.length;refine pY (ops:=[.ref s3.heap.objs.size,_]) ht.typeIs slot_tuple_getitem.lookup (getItem_tuple_from ht ON (by lia) (by simp;exact zul h2 Ct) ?_ (by simp[Hd];exact zgW hl Ct)) rfl;generalize hH:({ s3 with heap:=s3.heap.push so }:ay)=s4 at a4 rs ht ⊢;have hh:s4.heap=s3.heap.push so:=by rw[<-hH]
   refine zq _ σ3 (.tup (by rw[eX];exact zb 0x1e84812082a0f424090006 rfl hl) (vs:=vs.drop k) (qa ({ cls:=.type "tuple",data:=.seq (vs.toArray.toList.drop k).toArray }) ?_ rfl 0 (by simp)) ((rs.drop k).mono (.push _))) (a4.push _ s4.toks) (Step.push σ3 s4 _ s4.toks) q5;exact aM _ rfl
 .refine za (zh q3) λxs hx q4=>zv (a4.isList (zZ hx) Pn) λp vs FS _ hl rs hm=>?_;subst FS;refine pY (ops:=[.ref s3.heap.objs.size,_]) hl.typeIs slot_list_getitem.lookup (wpAny_getItem_list_slice hl ON p2 p3 .none (by simp) ?_ (by simp[<-rs.length,Hd];exact zgT hm)) rfl;generalize hH:({ s3 with heap:=s3.heap.push so }:ay)=s4 at a4 rs hl ⊢;have:=made (t:=s4.toks) (n:=0) (Q:=Q) (r:=r) a4 (rs.cut o o3) (ap (ziM ..) hm) q4;exact this
end
abbrev tZ:=Dp->Bool->List AV->zt->su->Prop
def jc(X:Cx)(f:aD)(p:tZ):Prop:=
 ∀d A U s r as vs Q E,sK X d A->At X U s->sw U s.heap as vs->p d r as Q (sC U)->aI X.M A (eP f vs) (sB X U s Q) E s
namespace A
def wU(d:Dp)(P:Prop):Prop:=match d.hd with|false=>P|true=>False
end A
theorem qw(h:A.wU d P):d.hd=ai/\P:=by
 unfold A.wU at h;cases e:d.hd with
 | false=>rw[e] at h;exact⟨rfl,h⟩
 | true=>rw[e] at h;exact h.elim
namespace A
def zvc(p:tZ)(d:Dp)(r:Bool)(Q:zt):List AV->su->Prop:=λas U'=>p d r as Q U'
def prim(p:tZ)(r:Bool)(CA:List AE):AE:=λd l Q Z U=>vr CA d l (zvc p d r Q) Z U
end A
section
variable{X:Cx}{env:fB}{nm:List (b7×Nat)}
theorem zeZ(XO:X.Ok)(EO:sF env)(hx:env.kindOf x=ae .globalImplicit)(hd:(x==("__debug__" : b7))=ai)(hn:X.mg x=af)(hv:X.mb x=ae f)
  (hf:(∃id,f = .builtin id)\/∃T,f = .type T)(hp:jc X f p)(h:sL X env nm es ms):zi X env nm (.Call (.Name x gp) es [] pos) (A.prim p r ms):=λd A l U s Q Z L a F q=>by
 refine oY (jd XO EO a hx hd hn hv ?_)
 rcases hf with⟨id,rfl⟩|⟨T,rfl⟩
 .refine dh h.plain (qg h L a F q λvs s1 CE=>?_);exact zj CE λE9 σ1 rv a1 st q1=>jN st (hp d A σ1 s1 r E9 vs Q _ L a1 rv q1)
 .refine eQ h.plain (qg h L a F q λvs s1 CE=>?_);exact zj CE λE9 σ1 rv a1 st q1=>jN st (hp d A σ1 s1 r E9 vs Q _ L a1 rv q1)
end
def tM(as:List AV)(K:AV->Prop):Prop:=match as with
 | []=>False
 | x::r=>match r with|[]=>K x|_::_=>False
theorem jt{K:AV->Prop}(h:tM as K):∃x,as=[x]/\K x:=by
 cases as with
 | nil=>exact h.elim
 | cons x r=>cases r with|nil=>exact zf x rfl h|cons _ _=>exact h.elim
noncomputable def Af(U:su)(x:AV):Option (List AV):=x.tupE (jq U x) ae
theorem zpA(h:Af (sC U) x=ae xs):x = .tup xs\/IsL U x xs:=by
 cases x with
 | tup ys=>cases h;exact .inl rfl
 | _=>exact .inr (zZ h)
def jI:tZ:=λ_ _ as Q U=>tM as λx=>zw (Af U x) λxs=>Q (.int xs.length) U
def kO:tZ:=λ_ _ as Q U=>match as with
 | []=>False
 | x::r=>zw x.int? λa=>match r with|[]=>Q (.rng 0 a) U|_::_=>tM r λy=>zw y.int? λb=>Q (.rng a b) U
noncomputable def xP(lo hi:Int):List AV:=xf lo (hi-lo).toNat
def xp:tZ:=λ_ r as Q U=>tM as λx=>zw (Af U x) λxs=>tO r xs Q U
section
variable{X:Cx}
theorem qf(r:sw U h [x] vs):∃v,vs=[v]/\sv U h x v:=by
 obtain⟨_,_,rfl,a,r⟩:=sw.wF r;obtain rfl:=sw.wG r;exact zf _ rfl a
theorem zpn(r:sw U h [x,y] vs):∃v w,vs=[v,w]/\sv U h x v/\sv U h y w:=by
 cases r with
 | cons a r=>
  obtain⟨_,_,rfl,b,r⟩:=sw.wF r;obtain rfl:=sw.wG r;exact zP _ _ rfl a b
theorem At.isSeq(a:At X U s)(h:Af (sC U) x=ae xs)(r:sv U s.heap x v) :
  ∃(b:aH) (vs:List aD),v = .ref b/\(iT s.heap b vs.toArray\/s.heap.IsList b vs.toArray)/\sw U s.heap xs vs/\xs.length<=1000000:=by
 rcases zpA h with rfl|h
 .refine zj (sv.wI r) λt vs DB hl ht rs=>?_;subst DB;exact zq t vs rfl (.inl ht) rs hl
 .exact zv (a.isList h r) λb vs e _ h1 h2 h3=>zq b vs e (.inr h1) h2 h3
theorem zmU:jc X (.builtin "len") jI:=λd A U s r as vs Q E L a rv q=>by
 refine za (jt q) λx Ee q=>?_;subst Ee;refine za (zh q) λxs hx q=>za (qf rv) λv Dn Df=>?_;subst Dn;refine zj (a.isSeq hx Df) λb vs DT ht rs hl=>?_;subst DT;have Ct:=rs.length;have e:(vs.toArray.size:Int)=xs.length:=by simp[Ct]
 rcases ht with ht|ht
 .refine len_tuple ht (by simp;exact zuj hl Ct) ?_;rw[e];exact zaj a (.int _ _) q
 .refine Calls.call_len_list ht (by simp;exact zuj hl Ct) ?_;rw[e];exact zaj a (.int _ _) q
theorem zii:jc X (.type "range") kO:=λd A U s r as vs Q E L a rv q=>by
 cases as with
 | nil=>exact q.elim
 | cons x as=>
  refine za (zh q) λi hi q1=>?_;have hi:=jv hi;cases as with
  | nil=>
   refine za (qf rv) λv FA Df=>?_;subst FA;rw[hi] at Df;obtain⟨_,rfl⟩:=sv.wC Df;exact call_range_1 (zq _ U (.rng (aM _ rfl)) (a.push _ _) (Step.push U s _ _) q1)
  | cons y as=>
   refine za (jt q1) λy' e q2=>?_;cases e;refine za (zh q2) λj hj q3=>?_;have hj:=jv hj;refine zm (zpn rv) λv w FH Df tI=>?_;subst FH;rw[hi] at Df;rw[hj] at tI;obtain⟨_,rfl⟩:=sv.wC Df;obtain⟨_,rfl⟩:=sv.wC tI;exact call_range_2 (zq _ U (.rng (aM _ rfl)) (a.push _ _) (Step.push U s _ _) q3)
theorem At.grown(a:At X U s)(t)(hk:∀b o,s.heap.get? b=ae o->h'.get? b=ae o):At X U { s with heap:=h',toks:=t }:=
 ⟨λb o e=>hk b o (a.keep b o e),λb ao e=>(a.rep b ao e).mono (.ext hk) λo ho=>hk b o ho,a.own,a.gens,a.os,a.ffk hk⟩
theorem Step.grown(U)(t)(hk:∀b o,s.heap.get? b=ae o->h'.get? b=ae o)(hsz:s.heap.objs.size<=h'.objs.size):Step B U s U { s with heap:=h',toks:=t }:=.same (λb o e _=>hk b o e) hsz
theorem zdc(a:At X U s)(hb:s.heap.objs.size<=b):b∉X.fr:=λq=>by
 exact zd3 (a.ff b q) λ_ o _ _ e _=>absurd (aO e) (Nat.not_lt.mpr hb)
theorem zcW(a:At X U s)(hk:∀b o,s.heap.get? b=ae o->h'.get? b=ae o)(hb:s.heap.objs.size<=b)(hn:h'.get? b=ae (zY vs n))(rv:sw U h' xs vs)
  (hl:xs.length<=1000000)(hsz:s.heap.objs.size<=h'.objs.size)(q:tO r xs Q (sC U)):sB X U s Q (.ref b) { s with heap:=h',toks:=t }:=by
 have h0:=a.none_of_size hb;have a1:=a.grown t hk;have st1:Step E0 U s U { s with heap:=h',toks:=t }:=.grown U t hk hsz;have uJ:X.h₀.get? b=af:=by
  cases h:X.h₀.get? b with
  | none=>rfl
  | some ob=>exact absurd (aO (a.keep _ _ h)) (Nat.not_lt.mpr hb)
 cases r with
 | true=>exact⟨.ref b,_,.ref _,a1.adopt (ao:=.list xs) h0 uJ (zdc a hb) λkv=>(zP vs n hn (rv.mono kv) hl),st1.adopt h0 hb,by rw[jk rfl];exact q _ (jU h0)⟩
 | false=>exact zq (.lst xs) _ (.lst (su.wA ..)) (a1.adopt (ao:=.frz xs) h0 uJ (zdc a hb) λkv=>(zz vs (qa _ hn rfl n rfl) (rv.mono kv) hl)) (st1.adopt h0 hb) (by rw[zgR h0];exact q)
theorem zeY:jc X (.type "list") xp:=λd A U s r as vs Q E L a rv q=>by
 refine za (jt q) λx Fh q=>?_;subst Fh;refine za (zh q) λxs hx q=>za (qf rv) λv KO Df=>?_;subst KO;refine zj (a.isSeq hx Df) λb vs F8 ht rs hl=>?_;subst F8;have Ct:=rs.length
 rcases ht with⟨o,ho,hc,n,hd⟩|⟨o,ho,hc,n,hd⟩
 .refine zO (call_list_seq _ (.inr rfl) ho hc hd (λh' c' hk hn hsz=>?_) (by simp[Hd];exact zgW hl Ct));exact zcW (t:=s.toks) a hk (ar _) hn (rs.mono (.ext hk)) hl hsz q
 .refine zO (call_list_seq _ (.inl rfl) ho hc hd (λh' c' hk hn hsz=>?_) (by simp[Hd];exact zgW hl Ct));exact zcW (t:=s.toks) a hk (ar _) hn (rs.mono (.ext hk)) hl hsz q
end
inductive uD where
 | tuple|int|bool|list
noncomputable def uD.name:uD->String
 | .tuple=>"tuple" | .int=>"int" | .bool=>"bool" | .list=>"list"
noncomputable def vQ(K:String)(T:uD):Bool:=match T with
 | .tuple=>K=="tuple" | .int=>K=="int"||K=="bool" | .bool=>K=="bool" | .list=>K=="list"
noncomputable def isA(T:uD)(x:AV)(U:su):Option Bool:=@AV.casesOn (λ_=>Option Bool) x af (λ_=>af) (λ_=>ae (vQ "int" T)) (λ_=>af) (λ_=>ae (vQ "tuple" T)) (λ_=>ae (vQ "list" T)) (λp=>((U p).bind AO.w4).map λ_=>vQ "list" T) (λ_ _=>af) λ_=>af
theorem zgp(T:uD):pZ (.type T.name)=b9 (.type "type"):=by cases T<;>(unfold uD.name;kernel_rfl)
noncomputable def kT:List String:=["int","tuple","list"]
theorem zvF{K:String}(hK:K∈kT)(T:uD):mM (.type K) (.type T.name)=b9 (vQ K T):=by
 unfold kT at hK;simp only[bR,aZ,or_false] at hK
 rcases hK with rfl|rfl|rfl<;>cases T<;>(rw[isSubtype_type];kernel_rfl)
theorem zzt{K:String}{T:uD}(h:vQ K T=ai):(fq K==fq T.name)=ai:=by
 have:K≠T.name:=λe=>by subst e;cases T<;>cases h
 simpa using this
def Co(T:uD)(x:AV)(Q:zt)(U:su):Prop:=zw (isA T x U) λb=>Q (.bool b) U
section
variable{X:Cx}{A:bn}{U:su}{s:ay}{Q:zt}{E:aD->ay->Prop}
theorem zi2{T:uD}{v:aD}{K:String}(hK:K∈kT)(a:At X U s)(hT:s.TypeIs v K)(q:Q (.bool (vQ K T)) (sC U))
  (no:(fq K==fq T.name)=ai->mM (.type K) (.type T.name)=b9 ai->sB X U s Q (.bool ai) { s with toks:=s.toks+1 }->aI X.M A (eP (.builtin "isinstance") [v,.type T.name]) (sB X U s Q) E s) :
  aI X.M A (eP (.builtin "isinstance") [v,.type T.name]) (sB X U s Q) E s:=by
 have e:=zvF hK T;cases hb:vQ K T with
 | true=>rw[hb] at e q;exact gN (isinstance_true (Tx:=K) (zgp T) e) ⟨hT,zb0 a (.bool _) q⟩
 | false=>rw[hb] at e q;exact no (zzt hb) e (zaj a (.bool _) q)
theorem zhy(a:At X U s)(ht:s.heap.IsList p vs)(q:Q (.bool (vQ "list" T)) (sC U)):aI X.M A (eP (.builtin "isinstance") [.ref p,.type T.name]) (sB X U s Q) E s:=
 zi2 (by decide) a ht.typeIs q λh1 h2 fin=>gN (isinstance_false_list h1 (zgp T) h2) ⟨ht.typeIs,fin⟩
theorem zlI{T:uD}{x:AV}{v:aD}(a:At X U s)(rx:sv U s.heap x v)(q:Co T x Q (sC U)):aI X.M A (eP (.builtin "isinstance") [v,.type T.name]) (sB X U s Q) E s:=by
 cases rx with
 | int c t=>exact zi2 (K:="int") (by decide) a rfl q λh1 h2 fin=>gN (isinstance_false_int h1 (zgp T) h2) fin
 | tup hl ht rs=>exact zi2 (K:="tuple") (by decide) a ht.typeIs q λh1 h2 fin=>gN (isinstance_false_tuple h1 (zgp T) h2) ⟨ht.typeIs,fin⟩
 | lst hp=>exact za (a.isList0 (.inr hp)) λvs ht _=>zhy a ht q
 | ref p=>
  refine za (zh q) λb hb q=>za (Option.map_eq_some_iff.mp hb) λxs hx e=>zv (a.isList (zZ (x:=.ref p) hx) (.ref p)) λp' vs e' _ ht _ _=>?_;subst e;cases e';exact zhy a ht q
 | _=>exact q.elim
end
namespace A
def zzd(T:uD)(Q:zt):zt:=λa σ1=>Co T a Q σ1
def isa(T:uD)(x:AE):AE:=λd l Q Z U=>x d l (zzd T Q) Z U
end A
section
variable{X:Cx}{env:fB}{nm:List (b7×Nat)}
theorem zmS(XO:X.Ok)(EO:sF env)(hx:env.kindOf "isinstance" = ae .globalImplicit)(hn:X.mg "isinstance" = af)(hv:X.mb "isinstance" = ae (.builtin "isinstance"))
  (NS:env.kindOf Tn=ae .globalImplicit)(hd:(Tn==("__debug__" : b7))=ai)(Nk:X.mg Tn=af)(MP:X.mb Tn=ae (.type T.name))(hs:jo e=ag)(h:zi X env nm e m) :
  zi X env nm (.Call (.Name "isinstance" gp) [e,.Name Tn tp] [] pos) (A.isa T m):=λd A l U s Q Z L a F q=>by
 refine oY (jd XO EO a hx (by decide) hn hv ?_);refine dh ?_ ?_
 .rw[zL hs];rfl
 rw[zL hs];refine d0 ?_;show aI X.M A (mL ((ai,fm e env)::fo pos (cZ [.Name Tn tp] env))) _ _ s;refine bt (zak (h d A l U s _ Z L a F q) λav v σ1 s1 rv a1 st1 q1=>?_);show aI X.M A (mL ((ai,fm (.Name Tn tp) env)::[])) _ _ s1;refine bt (jd XO EO a1 NS hd Nk MP (cy ?_));exact jN st1 (zlI a1 rv q1)
end
section
variable{X:Cx}{env:fB}{nm:List (b7×Nat)}{B:aH->Prop}
inductive ty(B:aH->Prop)(env:fB)(nm:List (b7×Nat)):List Expr->List Nat->Prop
 | nil:ty B env nm [] []
 | cons {x pos es i is}:nm.lookup x=ae i->xn B env x->ty B env nm es is->ty B env nm (.Name x pos::es) (i::is)
theorem ty.length{es is}(h:ty B env nm es is):es.length=is.length:=by
 induction h with
 | nil=>rfl
 | cons _ _ r ih=>rw[au,au,ih]
theorem zaR(x)(pos)(es):ie (.Name x pos::es) env=(ai,rW (.Name x pos) env)::ie es env:=rfl
theorem zb5{es is}(h:ty B env nm es is):(ie es env).length=es.length/\(ie es env).findIdx? (·.1)=af:=by
 induction h with
 | nil=>exact⟨rfl,rfl⟩
 | @cons x pos es i is _ _ r ih=>
  rw[zaR];refine⟨by rw[au,au,ih.1],?_⟩;rw[List.findIdx?_cons];simp[ih.2]
theorem zdt(EO:sF env)(hB:∀b,B b->FB env b){es is}(N0:ty B env nm es is):∀{A:bn} {l:Loc} {U:su} {s:ay} {xs:List AV} {vs:List aD} {Q:Unit->ay->Prop} {E:aD->ay->Prop},At X U s->FR X env nm l U s.heap->sw U s.heap xs vs->
  (∀s',FR X env nm (ym is xs l) U s'.heap->At X U s'->Step B U s U s'->Q () s')->aI X.M A (n8 ((ie es env).map (·.2)) vs) Q E s:=by
 induction N0 with
 | nil=>
  intro A l U s xs vs Q E a F r h;have:n8 ([]:List (aD->lu Unit)) vs=b9 ():=by cases vs<;>rfl
  show aI X.M A (n8 [] vs) Q E s;exact Ha (h s (by cases xs<;>exact F) a (.refl ..))
 | @cons x pos es i is hx hk nr ih=>
  intro A l U s xs vs Q E a F r h;rw[zaR];cases r with
  | nil=>exact Ha (h s F a (.refl ..))
  | @cons y ys v ws ry rs=>
   refine G9 (Hc (iz (zfM EO F a hx hk ry λs1 F1 a1 st1=>?_)));have no:sH B s.heap:=λb o hb e=>F.noStay b o (hB b hb) e;refine ih a1 F1 (rs.mono (st1.keepV a no)) λs2 F2 a2 Cy=>h s2 F2 a2 (st1.trans Cy)
theorem zid(EO:sF env)(hB:∀b,B b->FB env b)(N:ty B env nm es is):wj B X env nm (.Tuple es k pos) (.many is):=λd A l l' U s x v Q E L hd a F r hb h=>by
 cases x with
 | tup xs=>
  have hb:(if xs.length=is.length then ae (ym is xs l) else af)=ae l':=hb
  by_cases Ct:xs.length=is.length
  .rw[if_pos Ct] at hb;obtain rfl:=Hz hb;refine zj (sv.wI r) λt vs CU hl ht rs=>?_;subst CU;have e:=zb5 N;have Jp:=rs.length;refine G9 (Hj ?_);unfold unpack;have en:(ie es env).length=vs.toArray.size:=by rw[e.1,N.length,<-Ct,Jp];simp
   rw[e.2,en];refine G9 (Hc (zO (wpAny_unpackItems_tuple (L.handled hd) ht λh' EJ hsz=>?_)));have hk:∀b o,s.heap.get? b=ae o->h'.get? b=ae o:=λb o eo=>EJ b o (bl (aO eo)) eo;have a1:At X U { s with heap:=h' }:=a.grown s.toks hk;have st1:Step E0 U s U { s with heap:=h' }:=.grown U s.toks hk hsz;have Qw:=rs.mono (st1.keepV0 a);have:vs.toArray.toList=vs:=rfl;exact zdt EO hB N a1 (F.step a st1) Qw λs2 F2 a2 Cy=>h s2 F2 a2 ((st1.weaken λb hb=>hb.elim).trans Cy)
  .rw[if_neg Ct] at hb;exact absurd (d6 hb) (aA _)
 | _=>exact nos hb
end
noncomputable def xu(lo hi:Int):Bool:=iB lo.natAbs 1000000000000&&iB hi.natAbs 1000000000000
theorem nab{i:Int}(h:i.natAbs<c) : -(c:Int)<i/\i<c:=
 ⟨Int.neg_lt_of_neg_lt (dV (Int.natAbs_neg i▸rA) (Int.ofNat_lt.mpr h)),dV rA (Int.ofNat_lt.mpr h)⟩
theorem zpp{lo hi:Int}(h:xu lo hi=ag) : -1000000000000<lo/\lo<1000000000000/\-1000000000000<hi/\hi<1000000000000:=
 jC (Bool.and_eq_true_iff.mp h) λh1 h2=>⟨(nab (ba h1)).1,(nab (ba h1)).2,nab (ba h2)⟩
def C7(v:AV)(U:su)(K:(su->Prop)->List AV->Prop):Prop:=v.tupE (v.rngE (zw (jq U v) λxs=>K (xh v xs) xs) λlo hi=>uh (xu lo hi) (K (λ_=>True) (xP lo hi))) (K λ_=>True)
structure uy(X:Cx)(A:bn)(target:Expr)(U:su)(s:ay)(K:(su->Prop)->List AV->Prop)(it:aD)(s':ay):Prop where
 ex:∃I xs W St,tX X A target it I xs W St/\St 0 U s'.heap/\(∀b,W b->U b=af/\X.h₀.get? b=af/\s.heap.objs.size<=b)/\I (sC U)/\K I xs
 at_:At X U s'
 step:Step E0 U s U s'
section
variable{X:Cx}{A:bn}{U:su}{s:ay}{E:aD->ay->Prop}{d:Dp}{target:Expr}
theorem jL(a:At X U s)(hb:s.heap.objs.size<=b):U b=af/\X.h₀.get? b=af/\s.heap.objs.size<=b:=(zu (a.none_of_size hb) (by
 cases h:X.h₀.get? b with
 | none=>rfl
 | some ob=>exact absurd (aO (a.keep _ _ h)) (Nat.not_lt.mpr hb)) hb)
theorem zek(a:At X U s)(hx:jq (sC U) v=ae xs)(r:sv U s.heap v u):∃(p:aH) (vs:List aD),u = .ref p/\s.heap.IsList p vs.toArray/\sw U s.heap xs vs/\xh v xs (sC U)/\wy v p xs U:=by
 refine zv (a.isList (zZ hx) r) λp vs CP ho hl rs _=>?_;subst CP;refine jh p vs rfl hl rs ?_ ?_
 .cases zZ hx with|ref h=>exact h|lst=>trivial
 .cases r with|ref a=>exact rfl|lst h=>cases zZ hx;exact h|tup _ _ _=>exact nos hx|rng _=>exact nos hx|exc _=>exact nos hx
theorem zi6{K:(su->Prop)->List AV->Prop}(hh:A.handled=af)(a:At X U s)(r:sv U s.heap v u)(h:C7 v (sC U) K):aI X.M A (rX u) (uy X A target U s K) E s:=by
 have lists:(zw (jq (sC U) v) λxs=>K (xh v xs) xs)->aI X.M A (rX u) (uy X A target U s K) E s:=λh=>by
  refine za (zh h) λxs hx k=>zv (zek a hx r) λp vs Di hl rs k1 k2=>?_;subst Di;exact fQ hl ⟨(qj _ xs _ _ (zlM hh s.heap.objs.size p v xs) ⟨(zz _ (aM _ rfl) rfl rfl),k2⟩ (λb hb=>by subst hb;exact jL a (ar _)) k1 k),a.push _ s.toks,Step.push U s _ s.toks⟩
 cases v with
 | tup xs=>
  refine zj (sv.wI r) λt vs Dk hl ht rs=>?_;subst Dk;exact wpAny_pyIter_tuple ht ⟨(qj _ _ _ _ (zi5 hh s.heap.objs.size t _) (zah (zz _ (aM _ rfl) rfl rfl) vs ((sA.push _).tup (U:=U) ht) (rs.mono (.push _))) (λb hb=>by subst hb;exact jL a (ar _)) trivial h),a.push _ s.toks,Step.push U s _ s.toks⟩
 | rng lo hi=>
  cases r with
  | @rng _ _ t x y z ho=>
   obtain⟨hb,k⟩:=qX h;refine zI (zpp hb) λh1 h2 h3 h4=>?_;have hsz:Builtin.Range.rangeSize lo hi 1=(((hi-lo).toNat:Nat):Int):=by
    rw[rangeSize_one];split<;>(first|exact qb 0x415de420a8c090d026 rfl (by assumption)|exact qb 0x415de50338121a04c6 rfl (by assumption))
   have fl:∀z:Int,-1000000000000000<z->z<1000000000000000->gW z=ag:=λz hz1 hz2=>by
    unfold gW;simp only[bx,decide_eq_true_eq];constructor<;>lia
   have HR:mQ lo hi 1=ag:=by
    unfold mQ;rw[hsz,fl lo (by exact y12 h1) (y34 h2),fl hi (y12 h3) (y34 h4),fl 1 y0 y2,fl _ y65 (y47 h1 h4)];simp only[fb,iG];have:(1:Int)>0:=y3;simp only[this,if_true];rw[show hi+(1-1)=hi by exact y43,fl hi (by exact y12 h3) (by exact y34 h4)];simp
   refine wpAny_pyIter_range (t:=x) (u:=y) (v:=z) ho HR ⟨(qj _ (xP lo hi) _ _ (zi4 hh s.heap.objs.size lo (hi-lo).toNat) ?_ (λb hb=>by subst hb;exact jL a (ar _)) trivial k),a.push _ s.toks,Step.push U s _ s.toks⟩;show (s.heap.push _).get? s.heap.objs.size=ae _;rw[aM _ rfl,hsz];simp[rY]
 | none=>exact lists h
 | bool _=>exact lists h
 | int _=>exact lists h
 | str _=>exact lists h
 | lst _=>exact lists h
 | ref _=>exact lists h
 | exc _=>exact lists h
end
noncomputable def xT(e:Expr):Bool:=!Nat.beq e.ctorIdx 7
theorem q7(h:xT e=ag)(x):foldedSetIterable e env x=b9 x:=by
 cases e<;>first|rfl|exact nob h
abbrev AI:=Dp->Loc->(su->(su->Prop)->List AV->Prop)->XP->su->Prop
namespace A
def kIt(K:su->(su->Prop)->List AV->Prop):zt:=λv σ1=>C7 v σ1 (K σ1)
def zze(K:su->(su->Prop)->List AV->Prop):zt:=λv σ1=>zw (jq σ1 v) λxs=>K σ1 (xh v xs) (xC 0 xs)
def kFr(t:uF)(b:AS)(d:Dp)(l:Loc)(Q:je)(σ1:su)(I:su->Prop)(xs:List AV):Prop:=vm I t b d Q xs l σ1
def zzf(r:Bool)(Q:zt):List AV->su->Prop:=λacc U'=>tO r acc Q U'
def kLc(r:Bool)(t:uF)(k:Nat)(c:Option AE)(e:AE)(d:Dp)(l:Loc)(Q:zt)(σ1:su)(I:su->Prop)(xs:List AV):Prop:=vn I t c e d (zzf r Q) xs [] (l++fH k af) σ1
def itP(m:AE):AI:=λd l K Z U=>wU d (m d l (kIt K) Z U)
def itE(m:AE):AI:=λd l K Z U=>wU d (m d l (zze K) Z U)
def fr(m:AI)(t:uF)(b:AS):AS:=λd l Q Z U=>m d l (kFr t b d l Q) (kZ Z l) U
def lc(r:Bool)(m:AI)(t:uF)(k:Nat)(c:Option AE)(e:AE):AE:=λd l Q Z U=>m d l (kLc r t k c e d l Q) Z U
end A
section
variable{X:Cx}{env:fB}{nm:List (b7×Nat)}
def xB(X:Cx)(env:fB)(nm:List (b7×Nat))(target iter:Expr)(m:AI):Prop:=
 ∀d A l U s K Z (R:aD->ay->Prop) E,sK X d A->At X U s->FR X env nm l U s.heap->m d l K Z (sC U)->(∀e s',sE X U s Z e s'->E e s')->(d.hd=ai->
  ∀σ1 s1 it s2,At X σ1 s1->Step E0 U s σ1 s1->uy X A target σ1 s1 (K (sC σ1)) it s2->R it s2)->
  aI X.M A (fm iter env) (λx s1=>aI X.M A (rX x) R E s1) E s
theorem zgG(h:zi X env nm iter m):xB X env nm target iter (A.itP m):=λd A l U s K Z R E L a F q hE hR=>by
 obtain⟨hd,q⟩:=qw q;refine Hb (h d A l U s _ Z L a F q) (λx s1 hx=>?_) λe s' x=>hE e s' x;exact zj hx λav σ1 rv a1 st1 q1=>Hb (zi6 (target:=target) (L.handled hd) a1 rv q1) (λit s2 x=>hR hd σ1 s1 it s2 a1 st1 x) λ_ _ (e:False)=>e.elim
theorem zic(XO:X.Ok)(EO:sF env)(hx:env.kindOf "enumerate" = ae .globalImplicit)(hn:X.mg "enumerate" = af)(hv:X.mb "enumerate" = ae (.type "enumerate"))(hs:jo e=ag)(h:zi X env nm e m) :
  xB X env nm (.Tuple elts x1 tp) (.Call (.Name "enumerate" gp) [e] [] pos) (A.itE m):=λd A l U s K Z R E L a F q hE hR=>by
 obtain⟨hd,q⟩:=qw q;refine oY (jd XO EO a hx (by decide) hn hv ?_);refine eQ ?_ ?_
 .rw[zL hs];rfl
 rw[zL hs];refine d0 ?_;show aI X.M A (mL ((ai,fm e env)::[])) _ _ s;refine bt (Hb (h d A l U s _ Z L a F q) (λv s1 CE=>cy ?_) λe s' x=>hE e s' x);refine zj CE λav σ1 rv a1 st1 q1=>za (zh q1) λxs Qr q2=>zv (zek a1 Qr rv) λp vs D6 hl rs k1 k2=>?_;subst D6;refine zO (call_enumerate_list hl λh' he Dr hsz hk Io=>?_);have a2:At X σ1 { s1 with heap:=h' }:=a1.grown s1.toks hk;have Cy:Step E0 σ1 s1 σ1 { s1 with heap:=h' }:=.grown σ1 s1.toks hk Io;refine nL he (hR hd σ1 s1 _ _ a1 st1 ⟨(qj _ _ _ _ (zlL (L.handled hd) (s1.heap.objs.size+1) s1.heap.objs.size p (neA zAG) av xs) (zag Dr k2 _ he) (λb hb=>?_) k1 q2),a2,Cy⟩)
 rcases hb with rfl|rfl
 .exact jL a1 (cG _)
 .exact jL a1 (ar _)
theorem zmP(hn:xT iter=ag)(hi:xB X env nm target iter m)(ht:wj (FB env) X env nm target t)(hb:j9 X env nm body b) :
  jz X env nm (.For target iter body [] pos) (A.fr m t b):=λd A l U s Q Z L a F q=>by
 refine wpAny_For (hi d A l U s _ _ _ _ L a F q (λe s' x=>x.toS a F) λhd σ1 s1 it s2 a1 st1 IA=>?_) (q7 hn);refine jb IA.ex λI xs W St IT CD hW hI q1=>?_;have F2:=(F.step a st1).step a1 IA.step;refine zn5 (U:=σ1) (Q:=Q) L hd IT ht hb (λb hb=>⟨(hW b hb).1,(hW b hb).2.1⟩) IA.at_ F2 hI CD q1 λf s' CE=>jB CE λfl l' U' r a' F' Cs q'=>zK fl l' U' r a' F' ?_ q';have O0:Step (λb=>FB env b\/W b) σ1 s1 σ1 s2:=IA.step.weaken λb hb=>hb.elim;have:=(O0.trans Cs).drop (B:=FB env) λb hb=>hb.imp id λhb=>(hW b hb).2.2;exact(st1.weaken FB.wQ).trans this
structure tU(X:Cx)(env:fB)(nm:List (b7×Nat))(N:Nat)(elt target iter:Expr)(ifs:List Expr)(scope:Scope)(D4:List (b7×Nat))(k:Nat)(t:uF)(c:Option AE)(e:AE)(m:AI):Prop where
 ns:xT iter=ag
 ck:sV env.scope.names nm N scope.names D4 k
 kind:scope.kind = .function
 iter:xB X env nm target iter m
 tgt:∀C,wj (λb=>b=C) X (cY scope (tB env.cells scope.names []) C env) D4 target t
 test:∀C,yp X (cY scope (tB env.cells scope.names []) C env) D4 ifs c
 elt:∀C,zi X (cY scope (tB env.cells scope.names []) C env) D4 elt e
theorem zbd{sc:List (b7×bC)}{N:Nat}{names:List (b7×bC)}{D4:List (b7×Nat)}{k:Nat}(CK:sV sc nm N names D4 k):∀x∈names,x.2 = .local->names.lookup x.1=ae .local:=λx hx h=>by
 have:=qc CK.nodup (n:=x.1) (c:=x.2) hx;rw[h] at this;exact this
theorem zpR(DG:s'.heap.get? D=ae (zY ys n))(Ft:sw U' s'.heap acc ys)(DQ:acc.length<=1000000)(a:At X U' s')(st:Step B U s U' s')(hσ:U' D=af)(h0:X.h₀.get? D=af)(Ds:D∉X.fr)(hD:s.heap.objs.size<=D)(q:tO r acc Q (sC U')) :
  ∃av ao,sv (U'.set D ao) s'.heap av (.ref D)/\At X (U'.set D ao) s'/\Step B U s (U'.set D ao) s'/\Q av (sC (U'.set D ao)):=by
 cases r with
 | true=>exact⟨.ref D,.list acc,.ref D,a.adopt hσ h0 Ds λkv=>(zP ys n DG (Ft.mono kv) DQ),st.adopt hσ hD,by rw[jk rfl];exact q D (jU hσ)⟩
 | false=>exact zq (.lst acc) (.frz acc) (.lst (su.wA ..)) (a.adopt hσ h0 Ds λkv=>(zz ys (qa _ DG rfl n rfl) (Ft.mono kv) DQ)) (st.adopt hσ hD) (by rw[zgR hσ];exact q)
theorem zeX
  (EO:sF env)(hN:jR nm=N)(S:tU X env nm N elt target iter ifs scope D4 k t c e m) :
  zi X env nm (.ListComp elt [⟨target,iter,ifs,0⟩] scope pos) (A.lc r m t k c e):=λd A l U s Q Z L a F q=>by
 refine fc (use:=af) rfl (q7 S.ns) (kx (S.ck.closure F)) S.kind (zbd S.ck) (S.iter d A l U s _ Z _ _ L a F q (λe s' x=>x) λhd σ1 s1 it s2 a1 st1 IA=>jb IA.ex λI xs W St IT CD hW hI q1=>?_);have F2:=(F.step a st1).step a1 IA.step;refine zcO (RR:=λacc C=>compPost X.M A (sE X U s Z) af (sB X U s Q) acc C) EO L hd IA.at_ F2 (F.len.trans hN) S.ck S.kind IT CD (λb hb=>⟨(hW b hb).1,(hW b hb).2.1⟩) hI S.tgt S.test (λC _ l U s Q Z _ a F q=>S.elt C d A l U s Q Z L a F q) q1 ?_;intro D C s' U' acc mC Ds hD hC Kb Jq Iw Eu DG a3 CI q3;refine zf mC Eu (λh' Cz=>?_);refine zm DG λys n DG Ft DQ=>?_;have KB:X.h₀.get? C=af:=(jL IA.at_ hC).2.1;have Lb:X.h₀.get? D=af:=(jL IA.at_ hD).2.1;have EZ:C∉X.fr:=zdc IA.at_ hC;have kv:sA U' s'.heap U' h':=.mk' λb o e st=>(Cz.2 b (by rintro rfl;exact jZ Eu o e st)).trans e;have a4:At X U' { s' with heap:=h' }:=a3.aside (t:=s'.toks) (h':=h') Iw KB (jZ Eu) (λq=>absurd q EZ) Cz;have IE:h'.get? D=ae (zY ys n):=(Cz.2 D Kb).trans DG;have CZ:Step (λb=>W b\/s1.heap.objs.size<=b) σ1 s1 U' { s' with heap:=h' }:=by
  have x1:Step (λb=>W b\/s1.heap.objs.size<=b) σ1 s1 σ1 s2:=IA.step.weaken λb hb=>hb.elim;have x2:Step (λb=>W b\/s1.heap.objs.size<=b) σ1 s2 U' s':=CI.weaken λb hb=>.inl hb;have x3:Step (λb=>W b\/s1.heap.objs.size<=b) U' s' U' { s' with heap:=h' }:=Step.aside (t:=s'.toks) (h':=h') (.inr (ap IA.step.size hC)) Cz;exact x1.trans (x2.trans x3)
 have DE:Step E0 U s U' { s' with heap:=h' }:=st1.trans (CZ.drop λb hb=>.inr (hb.elim (λhb=>(hW b hb).2.2) id));have LW:s.heap.objs.size<=D:=ap st1.size (ap IA.step.size hD);exact zj (zpR IE (Ft.mono kv) DQ a4 DE Jq Lb Ds LW q3) λav ao h1 h2 h3 h4=>zq av _ h1 h2 h3 h4
end
section
variable{X:Cx}{env:fB}{nm:List (b7×Nat)}
theorem FB.lt{s:ay}(F:FR X env nm l U s.heap)(h:FB env b):b<s.heap.objs.size:=by
 rcases h with h|⟨x,hx⟩
 .refine za F.ns λm hn _=>?_;rw[h];exact hn.lt
 .exact kz (F.outc x b hx) λ_ _ v hc=>hc.lt
theorem zfc
  (EO:sF env)(hN:jR nm=N)(S:tU X env nm N elt target iter ifs scope D4 k t c e m)(hy:nm.lookup y=ae i)(Dw:env.kindOf y=ae .local\/env.kindOf y=ae .cell) :
  jz X env nm (.Assign [.Name y py] (.ListComp elt [⟨target,iter,ifs,0⟩] scope cpos) pos) (A.set i (A.lc r m t k c e)):=by
 have Mm:gk (.ListComp elt [⟨target,iter,ifs,0⟩] scope cpos) (ae (.Name y py)) pos.line env=b9 (env.blockKind==.function&&env.kindOf y==ae .local&&py.line==cpos.line&&!(scope.names.any λ(n,k)=>n==y&&(k==.local||k==.cell))):=rfl;cases hb:(env.blockKind==.function&&env.kindOf y==ae .local&&py.line==cpos.line&&!(scope.names.any λ(n,k)=>n==y&&(k==.local||k==.cell))) with
 | false=>rw[hb] at Mm;exact zfH EO (zeX EO hN S) hy Dw Mm
 | true=>
  rw[hb] at Mm;intro d A l U s Q Z L a F q;rw[exec_Assign_Name_used _ _ _ _ Mm];refine G9 (Hj (G9 ?_));refine G9 (Hb (fc (use:=ae (rW (.Name y py) env)) (Q:=λ_ s'=>tF X env nm U s Q .next s') rfl (q7 S.ns) (kx (S.ck.closure F)) S.kind (zbd S.ck) ?_) (λ_ s' hq=>Ha (Ha hq)) λ_ _ e=>e);refine S.iter d A l U s _ _ _ _ L a F q (λe s' x=>x.toS a F) λhd σ1 s1 it s2 a1 st1 IA=>jb IA.ex λI xs W St IT CD hW hI q1=>?_;have F1:=F.step a st1;have F2:=F1.step a1 IA.step;refine zcO (RR:=λacc C=>compPost X.M A (t6 X env nm U s Z) (ae (rW (.Name y py) env)) (λ_ s'=>tF X env nm U s Q .next s') acc C) EO L hd IA.at_ F2 (F.len.trans hN) S.ck S.kind IT CD (λb hb=>⟨(hW b hb).1,(hW b hb).2.1⟩) hI S.tgt S.test (λC _ l U s Q Z _ a F q=>S.elt C d A l U s Q Z L a F q) q1 ?_;intro D C s' U' acc mC Ds hD hC Kb Jq Iw Eu DG a3 CI q3;have KB:X.h₀.get? C=af:=(jL IA.at_ hC).2.1;have Lb:X.h₀.get? D=af:=(jL IA.at_ hD).2.1;have EZ:C∉X.fr:=zdc IA.at_ hC;refine zm DG λys n DG Ft DQ=>zj (zpR DG Ft DQ a3 CI Jq Lb Ds hD q3) λav ao r1 a3 CI q3=>?_;have On:(U'.set D ao) C=af:=by rw[su.wB _ _ (bO Kb)];exact Iw
  generalize U'.set D ao=σ3 at r1 a3 CI q3 On;have GW:sH W s2.heap:=λb o hb e=>by refine zl (IT.there 0 _ _ b CD hb) λo' e' h' _=>?_;rw[e] at e';obtain rfl:=Hz e';exact h'
  have dis:∀b,FB env b->¬W b:=λb hb hw=>absurd (FB.lt F1 hb) (Nat.not_lt.mpr (hW b hw).2.2);have F3:=F2.stepB IA.at_ CI dis GW;refine iz (ze0 EO F3 a3 hy Dw r1 λs4 F4 a4 CZ=>?_);have Py:¬FB env C:=λhb=>absurd (FB.lt F2 hb) (Nat.not_lt.mpr hC);refine jx (id Eu) λoC es ep RL OM hr=>?_;obtain⟨sl,hoC4⟩:=CZ.keepD C oC RL On Py;refine zf mC (kH _ es ep hoC4 OM hr) (λh' Cz=>?_);have nC:∀o,s4.heap.get? C=ae o->¬qM o:=λo ho=>by rw[hoC4] at ho;obtain rfl:=Hz ho;exact zbf OM
  have a5:At X σ3 { s4 with heap:=h' }:=a4.aside (t:=s4.toks) (h':=h') On KB nC (λq=>absurd q EZ) Cz;have DE:Step (λb=>b=C) σ3 s4 σ3 { s4 with heap:=h' }:=Step.aside (t:=s4.toks) (h':=h') rfl Cz;have F5:=F4.stepB a4 DE (λb hb e=>Py (e▸hb)) (λb o hb e=>by subst hb;exact nC o e);have M1:Step (λb=>FB env b\/s1.heap.objs.size<=b) σ1 s1 σ3 { s4 with heap:=h' }:=by
   have x1:Step (λb=>FB env b\/s1.heap.objs.size<=b) σ1 s1 σ1 s2:=IA.step.weaken λb hb=>hb.elim;have x2:Step (λb=>FB env b\/s1.heap.objs.size<=b) σ1 s2 σ3 s':=CI.weaken λb hb=>.inr (hW b hb).2.2;have x3:Step (λb=>FB env b\/s1.heap.objs.size<=b) σ3 s' σ3 s4:=CZ.weaken λb hb=>.inl hb;have x4:Step (λb=>FB env b\/s1.heap.objs.size<=b) σ3 s4 σ3 { s4 with heap:=h' }:=DE.weaken λb hb=>.inr (by rw[hb];exact ap IA.step.size hC);exact x1.trans (x2.trans (x3.trans x4))
  exact zK .next _ _ trivial a5 F5 ((st1.weaken FB.wQ).trans (M1.drop λb hb=>hb)) q3
end
section
open PySem.MeetsSeq
abbrev vj:=List AV->List AV->(AV->List AV->Prop)->Prop
def kj(X:Cx)(id:String)(m:vj):Prop:=
 ∀d A U s p xs as vs (Q:zt) E,sK X d A->At X U s->sw U s.heap as vs->U p=ae (.list xs)->m xs as (λv ys=>Q v ((sC U).set p (.list ys)))->aI X.M A (eP (.builtin id) (.ref p::vs)) (sB X U s Q) E s
def Aj(v:AV)(K:aH->Prop):Prop:=v.refE False K
theorem zhW{K:aH->Prop}(h:Aj v K):∃p,v = .ref p/\K p:=by
 cases v with
 | ref p=>exact⟨p,rfl,h⟩
 | _=>exact h.elim
def wm(U:su)(p:aH)(K:List AV->Prop):Prop:=zw ((U p).bind AO.w4) K
theorem zo{K:List AV->Prop}(h:U p=ae (.list xs))(q:K xs):wm U p K:=by unfold wm;rw[h];exact q
theorem zc0{K:List AV->Prop}(h:wm U p K):∃xs,U p=ae (.list xs)/\K xs:=by
 refine za (zh h) λxs h1 q=>za (Option.bind_eq_some_iff.mp h1) λo h2 h3=>?_;cases o with
 | list ys=>cases h3;exact⟨_,h2,q⟩
 | _=>exact nos h3
namespace A
def w1(p:aH)(Q:zt)(σ2:su)(v:AV)(ys:List AV):Prop:=Q v (σ2.set p (.list ys))
def ztb(m:vj)(p:aH)(Q:zt):List AV->su->Prop:=λas σ2=>wm σ2 p λxs=>m xs as (w1 p Q σ2)
def zvb(m:vj)(CA:List AE)(d:Dp)(l:Loc)(Q:zt)(Z:XP):zt:=λr σ1=>Aj r λp=>wm σ1 p λ_=>vr CA d l (ztb m p Q) Z σ1
def meth(m:vj)(x:AE)(CA:List AE):AE:=λd l Q Z U=>x d l (zvb m CA d l Q Z) Z U
def kEx(l:Loc)(S:je):zt:=λ_ U'=>S .next l U'
def ex(x:AE):AS:=λd l S SZ U=>x d l (kEx l S) (kZ SZ l) U
end A
section
variable{X:Cx}{env:fB}{nm:List (b7×Nat)}
theorem zjY{o:Expr}{name:b7}{id:String}{x:AE}{es:List Expr}{ms:List AE}{m:vj}{Dz pos:pJ}(slot:Slot "list" name id)(QJ:pZ (.builtin id)=b9 (.type "method_descriptor"))(hm:kj X id m)
  (hb:∀e,iH o name e (fm o e)=fm o e)(hl:(Dz.endLine==pos.line)=ag)(hn:decide (es.length<30)=ag)(hx:zi X env nm o x)(h:sL X env nm es ms) :
  zi X env nm (.Call (.Attribute o name Dz) es [] pos) (A.meth m x ms):=λd A l U s Q Z L a F q=>by
 refine wpAny_Call_method (hb env) ?_ hl PySem.F.plainAttrs_list slot QJ ?_
 .have h1:(fo pos (cZ es env)).all (λx=>!x.1)=ag:=by
   rw[l8];simp only[rZ];rw[h.plain];rfl
  rw[h1];show (ag&&ag&&decide (es.length+0+0<30))=ag
  simpa using hn
 refine Hb (hx d A l U s _ _ L a F q) (λv s1 CE=>?_) λ_ _ x=>x;refine zj CE λav σ1 r a1 st q1=>za (zhW q1) λp I7 q1=>?_;subst I7;refine za (zc0 q1) λxs hp q1=>?_;obtain rfl:=sv.wK r;refine z9 (a1.rep _ _ (zH hp).1) λvs n ho _=>zu (zf _ ho rfl) (λb e=>by cases e;exact(zf _ ho rfl)) (dh h.plain (Hb (qg h L a1 (F.step a st) q1 λvs s2 CE=>?_) (λ_ _ x=>x) λ_ _ x=>x.back st));exact zj CE λE9 σ2 r2 a2 Cy q2=>za (zc0 q2) λys D0 q3=>jN (st.trans Cy) (hm d A σ2 s2 p ys E9 vs Q _ L a2 r2 (zH D0).1 q3)
theorem zpI(EO:sF env)(h:zi X env nm e m)(hs:gk e af pos.line env=b9 ai):jz X env nm (.Expr e pos) (A.ex m):=λd A l U s Q Z L a F q=>by
 rw[exec_Expr env e pos (by unfold interactive;rw[EO.kind];rfl) hs];refine G9 (Hj (G9 (Hb (h d A l U s _ _ L a F q) (λv s1 Dl=>zj Dl λav σ1 r a1 st q1=>wpAny_dropValue ?_) λ_ _ x=>x.toS a F)));exact zK .next l σ1 trivial a1 (F.step a st) (st.weaken FB.wQ) q1
def zX:vj:=λxs as K=>tM as λv=>vh (xs.length+1) (K .none (xs++[v]))
def yX:vj:=λxs as K=>match as with|[]=>zw xs.getLast? λv=>K v xs.dropLast|_::_=>tM as λk=>zw k.int? λi=>uh (decide (0<=i)) (zw xs[i.toNat]? λv=>K v (xs.eraseIdx i.toNat))
theorem sw.eraseIdx(r:sw U h xs vs):∀n,sw U h (xs.eraseIdx n) (vs.eraseIdx n):=by
 induction xs generalizing vs with
 | nil=>intro n;obtain rfl:=sw.wG r;exact .nil
 | cons x xs ih=>
  obtain⟨_,_,rfl,a,r⟩:=sw.wF r;intro n;cases n with
  | zero=>exact r
  | succ n=>exact .cons a (ih r n)
theorem zqN{h:cI}{us ws:List aD}(ho:h.get? p=ae (zY us n))(f:Array aD->Array aD)(e:f us.toArray=ws.toArray):∃n',(h.update p (aX f)).get? p=ae (zY ws n'):=by
 have:=IsL.update ho f;rw[e] at this;exact⟨_,this⟩
theorem zb7{us ws:List aD}(a:At X U s)(hp:U p=ae (.list xs))(ho:s.heap.get? p=ae (zY us n))(f:Array aD->Array aD)(e:f us.toArray=ws.toArray)(tI:sw U s.heap ys ws)(hl:ys.length<=1000000)(rx:sv U s.heap x v)
  (q:Q x ((sC U).set p (.list ys))):sB X U s Q v { s with heap:=s.heap.update p (aX f) }:=by
 have hs:fG p s.heap (s.heap.update p (aX f)):=bB ..;obtain⟨n',CQ⟩:=zqN (ws:=ws) ho f e;have a':=a.store (ao:=.list ys) (t:=s.toks) hp rfl hs λkv=>(zP ws n' CQ (tI.mono kv) hl)
 have st:Step E0 U s (U.set p (.list ys)) { s with heap:=s.heap.update p (aX f) }:=Step.store (t:=s.toks) hp rfl hs;exact zq x _ (rx.mono (st.keepV0 a)) a' st (by rw[jk rfl];exact q)
theorem zgH:kj X "list.append" zX:=λd A U s p xs as vs Q E L a r hp q=>by
 refine za (jt q) λv0 Dn q=>?_;subst Dn;obtain⟨hl,q⟩:=zab q;refine za (qf r) λv FT rv=>?_;subst FT;refine zm (a.rep _ _ hp) λus n ho ru _=>?_;have hsz:us.toArray.size<=fO:=by rw[aK,<-ru.length,Hd];exact zd 0x20000013003d09024905006 rfl hl
 refine ic iI (zf _ ho rfl) PySem.F.entry_list_append (PySem.F.args_list_append_2 _ _) (list_append p us.toArray n v hsz) ⟨ho,?_⟩;exact zb7 (ws:=us++[v]) a hp ho _ (by simp) (ru.append (.cons rv .nil)) (by rw[aq];exact hl) .none q
theorem zfz{d:Dp}{A:bn}{U:su}{s:ay}{p:aH}{xs:List AV}{us:List aD}{n k:Nat}{x:AV}{v:aD}{Q:zt}(a:At X U s)(hp:U p=ae (.list xs))(ho:s.heap.get? p=ae (zY us n))(ru:sw U s.heap xs us)(hl:xs.length<=1000000)(hx:xs[k]? = ae x)(rx:sv U s.heap x v)(q:Q x ((sC U).set p (.list (xs.eraseIdx k)))) :
  sB X U s Q v { s with heap:=s.heap.update p (aX λx=>x.eraseIdxIfInBounds k) }:=by
 have hk:k<us.length:=by rw[<-ru.length];exact(List.getElem?_eq_some_iff.mp hx).1
 exact zb7 (ws:=us.eraseIdx k) a hp ho _ (by simp[iJ,hk]) (ru.eraseIdx k) (by have:=List.length_eraseIdx_le xs k;exact zb 0x7a120480008006f424090406 rfl hl this) rx q
theorem zm2:kj X "list.pop" yX:=λd A U s p xs as vs Q E L a r hp q=>by
 refine zm (a.rep _ _ hp) λus n ho ru hl=>?_;have hsz:us.toArray.size<=fO:=by rw[aK,<-ru.length,Hd];exact zgT hl
 cases as with
 | nil=>
  refine za (zh q) λx hx q1=>?_;obtain rfl:=sw.wG r;have hx':xs[xs.length-1]? = ae x:=by rw[<-List.getLast?_eq_getElem?];exact hx
  refine za (ru.get hx') λy hy ry=>?_;have E4:us.toArray[us.toArray.size-1]? = ae y:=by rw[aK,<-ru.length];simpa using hy
  refine ic gc (zf _ ho rfl) lJ (PySem.F.args_list_pop_1 _) (list_pop_last p us.toArray n y E4 hsz) ⟨ho,?_⟩;have e:us.toArray.size-1=xs.length-1:=by rw[aK,ru.length]
  rw[e];refine zfz (d:=d) (A:=A) a hp ho ru hl hx' ry ?_;rw[List.eraseIdx_length_sub_one];exact q1
 | cons i0 as=>
  have q:tM (i0::as) λk=>zw k.int? λi=>uh (decide (0<=i)) (zw xs[i.toNat]? λv=>Q v ((sC U).set p (.list (xs.eraseIdx i.toNat)))):=q;refine za (jt q) λkv e q1=>za (zh q1) λi hi q2=>?_;obtain⟨h0,q3⟩:=qX q2;refine za (zh q3) λx hx q4=>?_;have hi:=jv hi;rw[e,hi] at r;refine za (qf r) λv Fh rv=>?_;subst Fh;obtain⟨t,rfl⟩:∃t,v = .int i t:=by obtain⟨_,rfl⟩:=sv.wC rv;exact⟨_,rfl⟩
  obtain⟨k,hki⟩:∃k:Nat,i.toNat=k:=⟨_,rfl⟩
  rw[hki] at hx q4;refine za (ru.get hx) λy hy ry=>?_;have hk:k<us.length:=(List.getElem?_eq_some_iff.mp hy).1;have Kv:us.length<=1000000:=by rw[<-ru.length];exact hl
  have NX:i=k:=by lia
  have f1:ig i=ag:=by
   unfold ig;rw[H3 (by lia),H3 (by lia)];rfl
  have f2:seqIndex? i us.toArray.size=ae k:=by
   rw[NX];have e0:¬((k:Int)<0):=zAF;simp[seqIndex?,e0,hk]
  have f3:us.toArray[k]? = ae y:=by simpa using hy
  have JN:=list_pop_at p us.toArray n i t k y f1 f2 f3 hsz;refine ic gc (zf _ ho rfl) lJ (PySem.F.args_list_pop_2 _ _) JN ⟨ho,?_⟩;exact zfz (d:=d) (A:=A) a hp ho ru hl hx ry q4
end
end
@[irreducible] noncomputable def yy(xs:List AV)(Q:zt)(U:su):Prop:=∃ns:List Int,xs=ns.map .int/\ns≠[]/\∀M,M∈ns->(∀a∈ns,a<=M)->Q (.int M) U
@[irreducible] noncomputable def yU(xs:List AV)(Q:zt)(U:su):Prop:=∃ns:List Int,xs=ns.map .int/\ns≠[]/\∀M,M∈ns->(∀a∈ns,M<=a)->Q (.int M) U
@[irreducible] noncomputable def yD(xs:List AV)(Q:zt)(U:su):Prop:=∃ns:List Int,xs=ns.map .int/\iK ns/\Q (.int ns.sum) U
def xc:tZ:=λd _ as Q U=>A.wU d (match as with
 | []=>False
 | x::r=>match r with
  | []=>zw (jq U x) λxs=>yy xs Q U
  | _::_=>tM r λy=>kI x y λi j=>Q (.int (fF i j)) U)
def wv:tZ:=λd _ as Q U=>A.wU d (match as with
 | []=>False
 | x::r=>match r with
  | []=>zw (jq U x) λxs=>yU xs Q U
  | _::_=>tM r λy=>kI x y λi j=>Q (.int (fk i j)) U)
def xr:tZ:=λd _ as Q U=>A.wU d (tM as λx=>zw (jq U x) λxs=>yD xs Q U)
def yS:tZ:=λ_ _ as Q U=>tM as λx=>zw x.bool? λb=>Q (.int (if b then 1 else 0)) U
def xX:tZ:=λ_ _ as Q U=>tM as λx=>zw (jq U x) λxs=>Q (.tup xs) U
section
variable{X:Cx}{U:su}{s:ay}
theorem zbZ(r:sw U h (ns.map .int) vs):∃xs:List (Int×Tok),vs.toArray=intItems xs.toArray/\xs.map (·.1)=ns:=by
 induction ns generalizing vs with
 | nil=>cases r;exact⟨[],by simp[intItems],rfl⟩
 | cons n ns ih=>
  cases r with
  | cons a r=>
   obtain⟨t,rfl⟩:=sv.wC a;refine za (ih r) λxs e1 e2=>zf ((n,t)::xs) ?_ (by simp[e2]);simp[intItems] at e1 ⊢;exact e1
theorem za4(a:At X U s)(hk:∀b o,s.heap.get? b=ae o->h'.get? b=ae o)(hsz:s.heap.objs.size<=h'.objs.size)(q:Q (.int i) (sC U)):sB X U s Q (.int i t) { s with heap:=h',toks:=tk }:=(zq _ U (.int _ _) (a.grown tk hk) (.grown U tk hk hsz) q)
theorem zhv{K:Int->Int->Prop}(h:kI x y K):∃i j,x = .int i/\y = .int j/\K i j:=by
 refine za (zh h) λi h1 q=>za (zh q) λj h2 q=>zP i j (jv h1) (jv h2) q
theorem zix(r:sw U h [x,y] vs)(h1:x = .int i)(h2:y = .int j):∃t u,vs=[.int i t,.int j u]:=by
 subst h1;subst h2;refine zm (zpn r) λv w Dk rv tI=>?_;subst Dk;obtain⟨_,rfl⟩:=sv.wC rv;obtain⟨_,rfl⟩:=sv.wC tI;exact j3 _ _ rfl
theorem zmX:jc X (.builtin "max") xc:=λd A U s r as vs Q E L a rv q=>by
 obtain⟨hd,q⟩:=qw q;cases as with
 | nil=>exact q.elim
 | cons x as=>
  cases as with
  | cons y as=>
   have q:tM (y::as) λy=>kI x y λi j=>Q (.int (fF i j)) (sC U):=q;refine za (jt q) λz e q1=>zm (zhv q1) λi j h1 h2 q2=>?_;rw[e] at rv;refine z0 (zix rv h1 h2) λt u Ih=>?_;subst Ih;refine zO (max_two_ints (L.handled hd) λh' tk hk hsz=>?_)
   by_cases h:j>i
   .rw[if_pos h];rw[iS (y59 h)] at q2;exact za4 a hk hsz q2
   .rw[if_neg h];rw[lT (y60 h)] at q2;exact za4 a hk hsz q2
  | nil=>
   refine za (zh q) λys hx q1=>za (qf rv) λv K0 Df=>?_;subst K0;refine zv (a.isList (zZ hx) Df) λp us D6 _ hl rs _=>?_;subst D6;unfold yy at q1;refine zl q1 λns FA CL q2=>?_;subst FA;refine za (zbZ rs) λxs e1 e2=>?_;rw[e1] at hl;have hx:0<xs.length:=by rw[<-e2] at CL;cases xs<;>simp_all
   refine zO (max_intList (L.handled hd) hl (by simpa using hx) λv h' tk hv hk hsz=>?_);obtain⟨t,rfl⟩:=intItems_at hv;obtain⟨h1,h2⟩:=argBest_gt (numAt xs.toArray) (xs.toArray.size-1);have e3:(xs.toArray.toList.map (·.1))=ns:=e2;refine za4 a hk hsz (q2 _ ?_ λb hb=>?_)
   .rw[nQ,e3];exact mw (by rw[<-e3,am,aN];simp at h1 ⊢;exact zb 0x148280486a00182945006 rfl hx h1)
   .rw[<-e3] at hb;refine za (r4 hb) λj hj FH=>?_;subst FH;rw[am,aN] at hj;rw[<-nQ];exact h2 j (zrW hj)
theorem zmY:jc X (.builtin "min") wv:=λd A U s r as vs Q E L a rv q=>by
 obtain⟨hd,q⟩:=qw q;cases as with
 | nil=>exact q.elim
 | cons x as=>
  cases as with
  | cons y as=>
   have q:tM (y::as) λy=>kI x y λi j=>Q (.int (fk i j)) (sC U):=q;refine za (jt q) λz e q1=>zm (zhv q1) λi j h1 h2 q2=>?_;rw[e] at rv;refine z0 (zix rv h1 h2) λt u L4=>?_;subst L4;refine zO (min_two_ints (L.handled hd) λh' tk hk hsz=>?_)
   by_cases h:j<i
   .rw[if_pos h];rw[gj (y55 h)] at q2;exact za4 a hk hsz q2
   .rw[if_neg h];rw[gI (y62 h)] at q2;exact za4 a hk hsz q2
  | nil=>
   refine za (zh q) λys hx q1=>za (qf rv) λv Lg Df=>?_;subst Lg;refine zv (a.isList (zZ hx) Df) λp us DM _ hl rs _=>?_;subst DM;unfold yU at q1;refine zl q1 λns FJ CL q2=>?_;subst FJ;refine za (zbZ rs) λxs e1 e2=>?_;rw[e1] at hl;have hx:0<xs.length:=by rw[<-e2] at CL;cases xs<;>simp_all
   refine zO (min_intList (L.handled hd) hl (by simpa using hx) λv h' tk hv hk hsz=>?_);obtain⟨t,rfl⟩:=intItems_at hv;obtain⟨h1,h2⟩:=argBest_lt (numAt xs.toArray) (xs.toArray.size-1);have e3:(xs.toArray.toList.map (·.1))=ns:=e2;refine za4 a hk hsz (q2 _ ?_ λb hb=>?_)
   .rw[nQ,e3];exact mw (by rw[<-e3,am,aN];simp at h1 ⊢;exact zb 0x148280486a00182945006 rfl hx h1)
   .rw[<-e3] at hb;refine za (r4 hb) λj hj FS=>?_;subst FS;rw[am,aN] at hj;rw[<-nQ];exact h2 j (zrW hj)
theorem zm5:jc X (.builtin "sum") xr:=λd A U s r as vs Q E L a rv q=>by
 obtain⟨hd,q⟩:=qw q;refine za (jt q) λx LS q=>?_;subst LS;refine za (zh q) λys hx q1=>za (qf rv) λv KG Df=>?_;subst KG;refine zv (a.isList (zZ hx) Df) λp us LD _ hl rs _=>?_;subst LD;unfold yD at q1;refine zl q1 λns JJ hf q2=>?_;subst JJ;refine za (zbZ rs) λxs e1 e2=>?_;rw[e1] at hl;have e3:(xs.toArray.toList.map (·.1))=ns:=e2;have e4:ns.length=xs.toArray.size:=by rw[<-e3];simp
 refine zO (sum_intList (L.handled hd) hl (λj hj=>?_) λh' tk t' hk hsz=>?_)
 .rw[nQ,preSum_eq,e3];exact hf j (by rw[e4];exact hj)
 .rw[preSum_eq,e3,dj (by rw[e4];exact ar _)];exact za4 a hk hsz q2
theorem zjX:jc X (.type "int") yS:=λd A U s r as vs Q E L a rv q=>by
 refine za (jt q) λx JO q=>?_;subst JO;refine za (zh q) λb hb q=>?_;have hb:=za2 hb;subst hb;refine zm (sw.wF rv) λ_ _ F9 r1 r2=>?_;subst F9;obtain rfl:=sw.wG r2;obtain rfl:=sv.wP r1;exact call_int_bool (zaj a (.int _ _) q)
theorem zik:jc X (.type "tuple") xX:=λd A U s r as vs Q E L a rv q=>by
 refine za (jt q) λx JP q=>?_;subst JP;refine za (zh q) λys hx q1=>za (qf rv) λv KM Df=>?_;subst KM;refine zv (a.isList (zZ hx) Df) λp us Lq _ hl rs hm=>?_;subst Lq;refine zO (call_tuple_list hl (λh' hk hsz=>?_) (by rw[aK,<-rs.length,Hd];exact zgT hm));have CO:∀b o,s.heap.get? b=ae o->(h'.push { cls:=.type "tuple",data:=.seq us.toArray }).get? b=ae o:=λb o e=>az _ (hk b o e);exact zq (.tup ys) U (.tup hm (qa _ (aM _ rfl) rfl 0 rfl) (rs.mono (.ext CO))) (a.grown s.toks CO) (.grown U s.toks CO hsz) q1
end
section
open PySem.MeetsSeq
def AY:tZ:=λ_ _ as Q U=>tM as λx=>zw x.int? λi=>Q (.int (i.natAbs:Int)) U
@[irreducible] noncomputable def yF(xs:List AV)(Q:zt)(U:su):Prop:=∃bs:List Bool,xs=bs.map .bool/\Q (.bool (bs.all λb=>b)) U
def Ab:tZ:=λd _ as Q U=>A.wU d (tM as λx=>zw (jq U x) λxs=>yF xs Q U)
def vL:vj:=λxs as K=>match as with|[]=>K .none []|_::_=>False
def xO(x:AV)(d:eA):Prop:=∀U,Rd U x d
@[irreducible] noncomputable def yO(xs:List AV)(v:AV)(K:AV->List AV->Prop):Prop:=∃DH w post d e,xs=DH++w::post/\xO v d/\xO w e/\aU e d=ag/\e.depth<=100/\(∀x∈DH,∃dx,xO x dx/\aU dx d=ai/\dx.depth<=100)/\K .none (DH++post)
def Bg:vj:=λxs as K=>tM as λv=>yO xs v K
section
variable{X:Cx}
theorem zmG:jc X (.builtin "abs") AY:=λd A U s r as vs Q E L a rv q=>by
 obtain⟨x,rfl,q⟩:=jt q;obtain⟨i,hi,q⟩:=zh q;have hi:=jv hi;subst hi;obtain⟨v,rfl,Df⟩:=qf rv;obtain⟨_,rfl⟩:=sv.wC Df;refine call_abs_int λu tk=>?_;have e:(if i<0 then -i else i)=(i.natAbs:Int):=by split<;>lia
 rw[e];exact zaj a (.int _ _) q
theorem zh5{bs:List Bool}(r:sw U h (bs.map .bool) vs):vs=bs.map .bool:=by
 induction bs generalizing vs with
 | nil=>cases r;rfl
 | cons b bs ih=>
  cases r with
  | cons a r=>obtain rfl:=sv.wP a;rw[ih r];rfl
theorem zmH:jc X (.builtin "all") Ab:=λd A U s r as vs Q E L a rv q=>by
 obtain⟨hd,q⟩:=qw q;obtain⟨x,rfl,q⟩:=jt q;obtain⟨ys,hx,q1⟩:=zh q;obtain⟨v,rfl,Df⟩:=qf rv;obtain⟨p,us,rfl,_,hl,rs,_⟩:=a.isList (zZ hx) Df;unfold yF at q1;obtain⟨bs,rfl,q2⟩:=q1;have e:=zh5 rs;subst e;refine zO (call_all_walk (fQ hl (zef s.heap.objs.size _ _ _ _ _ (λi=>bs.getD i ai) rfl (pU (show A.in1.handled=af from L.handled hd) s.heap.objs.size p ?_ (bs.map r5).toArray) ⟨(zz _ (aM _ rfl) rfl rfl),?_⟩ ?_ (λh' tk hk hsz=>?_))))
 .obtain⟨o,ho,_⟩:=id hl;exact neA (λe=>absurd (aO ho) (by rw[e];exact cW _))
 .exact hl.at λo e=>az _ e
 .intro i v s' R E' hP hR;have hP:(bs.map r5).toArray[i]? = ae v:=hP;rw[dB,bQ] at hP;obtain⟨b,hb,rfl⟩:=Option.map_eq_some_iff.mp hP;have:bs.getD i ai=b:=by rw[aF,hb];rfl
  have hR:R (bs.getD i ai) s':=hR;rw[this] at hR;exact cx hR
 .have CO:∀b o,s.heap.get? b=ae o->h'.get? b=ae o:=λb o e=>hk b o (by
   intro hm;rw[List.mem_singleton.mp hm] at e;exact absurd (aO e) (cW _)) (az _ e)
  have en:∀bs:List Bool,((bJ bs.length).all λi=>bs.getD i ai)=bs.all λb=>b:=λbs=>by
   induction bs with
   | nil=>rfl
   | cons b bs ih=>
    rw[au,lK,rB,List.all_map,rB];exact congrArg _ ih
  have en:((bJ (bs.map r5).toArray.size).all λi=>bs.getD i ai)=bs.all λb=>b:=by
   rw[aK,am];exact en bs
  rw[en];exact zq _ U (.bool _) (a.grown tk CO) (.grown U tk CO hsz) q2
theorem zie:kj X "list.clear" vL:=λd A U s p xs as vs Q E L a r hp q=>by
 cases as with
 | cons _ _=>exact q.elim
 | nil=>
  obtain rfl:=sw.wG r;obtain⟨us,n,ho,ru,hl⟩:=a.rep _ _ hp;have hsz:us.toArray.size<=fO:=by rw[aK,<-ru.length,Hd];exact zgT hl
  refine ic l9 (zf _ ho rfl) PySem.F.entry_list_clear (PySem.F.args_list_clear_1 _) (PySem.AutoSeq1.list_clear_list_0 p us.toArray n hsz) ⟨ho,?_⟩;exact zb7 (ws:=[]) a hp ho _ rfl .nil (aE _) .none q
theorem zfb(l)(items)(n)(x)(j)(hj:j<items.size)(k)(D3:items.size<=fO) :
  ∀i:Nat,j-i=k->i<=j->Meets (dM.«list.remove.loop» ⟨[.ref l,x,rY i],[]⟩)
   (λA R s=>s.heap.get? l=ae { cls:=.type "list",dict:=af,data:=.seq items n,slots:=#[] }/\(∀m (hm:m<items.size),m<j->rz A.in1 s items[m] x ai)/\rz A.in1 s items[j] x ag/\R (.ok (.ret .none)) { s with heap:=s.heap.update l (aX λxs=>xs.eraseIdxIfInBounds j) }):=by
 induction k with
 | zero=>
  intro i hk CJ prog w A R s h;obtain⟨hp,g,d,tk,os⟩:=s;obtain⟨hl,Fd,Dr,h⟩:=h;have e:i=j:=zF3 hk CJ;subst e
  wp_walk using gO hl
  have hi:items[((i:Nat):Int).toNat]? = ae items[i]:=by simp[hj]
  rw[hi];refine G9 (Dr prog w _ _ ?_);have Ql:(items.eraseIdxIfInBounds i).size<=fO+1:=ap (size_erased items _) (bS D3)
  wp_walk using (wpAny_updateSeq hl rfl (hz:=D3) (_hz':=Ql)),gO hl
  simpa using h
 | succ k ih=>
  intro i hk CJ prog w A R s h;obtain⟨hp,g,d,tk,os⟩:=s;obtain⟨hl,Fd,Dr,h⟩:=h;have Cu:i<items.size:=zF9 hj CJ
  wp_walk using gO hl
  have hi:items[((i:Nat):Int).toNat]? = ae items[i]:=by simp[Cu]
  have hc:((i:Int)+1)=((i+1:Nat):Int):=by push_cast;rfl
  rw[hi];refine G9 (Fd i Cu (znj hk) prog w _ _ ?_)
  wp_walk
  rw[hc];exact⟨eu plain_remove_loop _,cD entry_remove_loop (by
   rw[bZ plain_remove_loop _];exact ih (i+1) (zr0 hk) (zF7 hk) prog w A R _ (zA hl Fd Dr h))⟩
theorem ze7(l)(items)(n)(x)(j)(hj:j<items.size)(D3:items.size<=fO) :
  Meets (dM.«list.remove» ⟨[.ref l,x],[]⟩)
   (λA R s=>s.heap.get? l=ae { cls:=.type "list",dict:=af,data:=.seq items n,slots:=#[] }/\(∀m (hm:m<items.size),m<j->rz A.in1 s items[m] x ai)/\rz A.in1 s items[j] x ag/\R (.ok (.ret .none)) { s with heap:=s.heap.update l (aX λxs=>xs.eraseIdxIfInBounds j) }):=by
 intro prog w A R s h;obtain⟨hp,g,d,tk,os⟩:=s;obtain⟨hl,h⟩:=h
 wp_walk using gO hl
 exact⟨eu plain_remove_loop _,cD entry_remove_loop (by
  rw[bZ plain_remove_loop _];exact zfb l items n x j hj _ D3 0 rfl (aE _) prog w A R _ ⟨hl,h⟩)⟩
theorem zgJ:kj X "list.remove" Bg:=λd A U s p xs as vs Q E L a r hp q=>by
 obtain⟨v0,rfl,q'⟩:=jt q;clear q;have q:=q';clear q';unfold yO at q;obtain⟨DH,w,post,dv,ew,rfl,h1,h2,h3,h4,h5,q⟩:=q;obtain⟨v,rfl,rv⟩:=qf r;obtain⟨us,c,ho,ru,hl⟩:=a.rep _ _ hp;have hsz:us.toArray.size<=fO:=by rw[aK,<-ru.length,Hd];exact zgT hl
 have EP:=ru.length;rw[aq,au] at EP;have hj:DH.length<us.length:=zCb EP;have room:=L.room;obtain⟨⟨as',r1⟩,c1⟩:=(h1 (sC U)).reads a rv;have at_:∀{m:Nat} {y:AV} {dy:eA} (hm:m<us.toArray.size),(DH++w::post)[m]? = ae y->xO y dy->dy.depth<=100->rz A.in1 s us.toArray[m] v (aU dy dv):=λ{m y dy} hm hy rd hd=>by
  obtain⟨u,hu,ry⟩:=ru.get hy;have e:us.toArray[m]=u:=by simpa using (List.getElem?_eq_some_iff.mp hu).2
  rw[e];obtain⟨⟨bs,r2⟩,c2⟩:=(rd (sC U)).reads a ry;refine lD _ _ _ _ _ _ _ _ r2 r1 c2 c1 ?_;have hm:=fj dy.depth dv.depth;have:A.in1.units<=A.units+1:=by first|exact ar _|exact cG _|(unfold Around.in1;simp)
  lia
 refine ic iL (zf _ ho rfl) PySem.F.entry_list_remove (PySem.F.args_list_remove_2 _ _) (ze7 p us.toArray c v DH.length (by simpa using hj) hsz) (zA ho (λm hm Oa=>?_) ?_ ?_)
 .have hy:(DH++w::post)[m]? = ae DH[m]:=by rw[bE Oa];exact aC Oa
  obtain⟨dx,k1,k2,k3⟩:=h5 DH[m] (cH Oa);rw[<-k2];exact at_ hm hy k1 k3
 .rw[<-h3];refine at_ (y:=w) (by simpa using hj) ?_ h2 h4;rw[bY (ar _),gX];rfl
 .refine zb7 (ws:=us.eraseIdx DH.length) (ys:=DH++post) a hp ho _ (by simp[iJ,hj]) ?_ (by rw[aq,au] at hl;rw[aq];exact zxn hl) .none q;have:=ru.eraseIdx DH.length;have e:(DH++w::post).eraseIdx DH.length=DH++post:=by
   rw[fC (ar _),gX];rfl
  rw[e] at this;exact this
end
end
structure Gd(X:Cx)(K:fE):Prop where
 ok:X.Ok
 inn:K.In X.h₀
 bi:∀x:b7,x≠"__name__"->X.mb x=nR x
structure EK(env:fB)(names:List (b7×bC)):Prop where
 eo:sF env
 nm:env.scope.names=names
noncomputable def v7(names:List (b7×bC))(x:b7):Bool:=names.lookup x==ae .local||names.lookup x==ae .cell
noncomputable def jQ(names:List (b7×bC))(x:b7):Bool:=names.lookup x==ae .globalImplicit&&!(x==("__debug__" : b7))
section
variable{X:Cx}{K:fE}{env:fB}{nm:List (b7×Nat)}{names:List (b7×bC)}
theorem EK.var(E:EK env names)(h:v7 names x=ag):env.kindOf x=ae .local\/env.kindOf x=ae .cell:=by
 unfold lE;rw[E.nm];unfold v7 at h
 simpa using h
theorem EK.glob(E:EK env names)(h:jQ names x=ag):env.kindOf x=ae .globalImplicit/\(x==("__debug__" : b7))=ai:=by
 unfold lE;rw[E.nm];unfold jQ at h;simp only[bx,beq_iff_eq,fS] at h;exact h
def xy(K:fE)(x:b7)(v:aD):Prop:=rC K Hn x=ae af/\nR x=ae v/\x≠"__name__"
theorem Gd.push(G:Gd X K)(L):Gd (X.push L) K:=⟨⟨G.ok.g,G.ok.b,G.ok.nolimit⟩,G.inn,G.bi⟩
theorem Gd.none(G:Gd X K)(h:xy K x v):X.mg x=af:=mg_none_of G.inn G.ok.g h.1
theorem Gd.some(G:Gd X K)(h:xy K x v):X.mb x=ae v:=(G.bi x h.2.2).trans h.2.1
noncomputable def Aa(names ns:List (b7×bC)):List (b7×bC):=ns.map λ(n,k)=>if (k==cb&&ag&&names.lookup n==ae iE) then (n,iE) else (n,k)
noncomputable def xk(nm:List (b7×Nat))(p:b7×bC)(n:Nat)(a b:List (b7×Nat)):List (b7×Nat):=bif p.2==.local then (p.1,n)::a else bif p.2==.free then (match nm.lookup p.1 with|some i=>(p.1,i)::b|none=>b) else b
noncomputable def zV(nm:List (b7×Nat)):Nat->List (b7×bC)->List (b7×Nat)
 | _,[]=>[]
 | n,p::r=>xk nm p n (zV nm (n+1) r) (zV nm n r)
noncomputable def x9(ns:List (b7×bC)):Nat:=(ns.filter λp=>p.2==.local).length
noncomputable def xH:List b7->Bool
 | []=>ag
 | x::r=>!r.contains x&&xH r
theorem zcx:xH l=ag->l.Nodup:=by
 induction l with
 | nil=>exact λ_=>.nil
 | cons x r ih=>
  intro h;have h:=(bx _ _).mp h;exact List.nodup_cons.mpr ⟨λq=>absurd h.1 (by rw[List.contains_iff_mem.mpr q];exact λe=>nomatch e),ih h.2⟩
noncomputable def yH:List (b7×Nat)->Bool
 | []=>ag
 | p::r=>r.all (λq=>!(q.2==p.2))&&yH r
theorem ziX:yH l=ag->∀x y i,(x,i)∈l->(y,i)∈l->x=y:=by
 induction l with
 | nil=>exact λ_ _ _ _ h=>nomatch h
 | cons p r ih=>
  intro h x y i h1 h2;have h:=(bx _ _).mp h;have h3:=List.all_eq_true.mp h.1
  rcases List.mem_cons.mp h1 with e1|h1<;>rcases List.mem_cons.mp h2 with e2|h2
  .exact(oZ (e1.trans e2.symm)).1
  .exact absurd (h3 _ h2) (by rw[<-e1];simp)
  .exact absurd (h3 _ h1) (by rw[<-e2];simp)
  .exact ih h.2 x y i h1 h2
noncomputable def Ad(names:List (b7×bC))(nm:List (b7×Nat))(N:Nat)(ns:List (b7×bC)):Bool:=
 xH (ns.map (·.1))&&ns.all (λp=>p.2==.local||p.2==.globalImplicit||(p.2==.free&&names.lookup p.1==ae .cell&&(nm.lookup p.1).isSome))&&
 (zV nm N ns).all (λp=>(ns.lookup p.1==ae .local&&N<=p.2&&p.2<N+x9 ns)||(ns.lookup p.1==ae .free&&nm.lookup p.1==ae p.2))&&yH (zV nm N ns)&&jR (zV nm N ns++nm)==N+x9 ns&&
 ns.all (λp=>!(p.2==.free)||(zV nm N ns++nm).lookup p.1==nm.lookup p.1)&&jR (zV nm N ns)==N+x9 ns
theorem zcN(h:Ad names nm N ns=ag):sV names nm N ns (zV nm N ns) (x9 ns):=by
 unfold Ad at h;simp only[bx,lh,beq_iff_eq,lX,decide_eq_true_eq,fS,beq_eq_false_iff_ne,ne_eq] at h;obtain⟨⟨⟨⟨⟨⟨h1,h2⟩,h3⟩,h4⟩,h5⟩,h6⟩,h7⟩:=h;have nd:=zcx h1;have fr:∀(n:Nat) (l:List (b7×bC)) x i,(x,cb)∈l->nm.lookup x=ae i->(x,i)∈zV nm n l:=by
  intro n l
  induction l generalizing n with
  | nil=>intro x i hx;cases hx
  | cons p r ih=>
   intro x i hx hi;obtain⟨y,k⟩:=p
   rcases List.mem_cons.mp hx with e|hx'
   .cases e;show (x,i)∈(match nm.lookup x with|some i=>(x,i)::zV nm n r|none=>zV nm n r);rw[hi];exact aj
   .clear hx;cases k
    all_goals first
     | exact ih _ x i hx' hi
     | exact al _ (ih _ x i hx' hi)
     | (show (x,i)∈(match nm.lookup y with|some i=>(y,i)::zV nm n r|none=>zV nm n r);split<;>first|exact al _ (ih _ x i hx' hi)|exact ih _ x i hx' hi)
 have ES:∀(l:List (b7×bC)) (n:Nat),(l.map (·.1)).Nodup->((zV nm n l).map (·.1)).Nodup/\∀x,x∈(zV nm n l).map (·.1)->x∈l.map (·.1):=by
  intro l
  induction l with
  | nil=>intro n _;exact⟨.nil,λx hx=>nomatch hx⟩
  | cons p r ih=>
   intro n hn;obtain⟨y,k⟩:=p;have CQ:=List.nodup_cons.mp hn;have Ka:∀m,((zV nm m r).map (·.1)).Nodup/\∀x,x∈(zV nm m r).map (·.1)->x∈((y,k)::r).map (·.1):=λm=>⟨(ih m CQ.2).1,λx hx=>al _ ((ih m CQ.2).2 x hx)⟩
   have more:∀m i,(((y,i)::zV nm m r).map (·.1)).Nodup/\∀x,x∈((y,i)::zV nm m r).map (·.1)->x∈((y,k)::r).map (·.1):=λm i=>
    ⟨List.nodup_cons.mpr ⟨λq=>CQ.1 ((ih m CQ.2).2 y q),(ih m CQ.2).1⟩,λx hx=>by
     rcases List.mem_cons.mp hx with e|hx
     .rw[e];exact aj
     .exact al _ ((ih m CQ.2).2 x hx)⟩
   cases k
   all_goals first
    | exact Ka _
    | exact more _ _
    | (cases hi:nm.lookup y with
     | none=>
      have e:xk nm (y,.free) n (zV nm (n+1) r) (zV nm n r)=zV nm n r:=by show (match nm.lookup y with|some i=>(y,i)::zV nm n r|none=>zV nm n r)=_;rw[hi]
      show ((xk nm _ n _ _).map _).Nodup/\∀x,x∈(xk nm _ n _ _).map _->_;rw[e];exact Ka _
     | some i=>
      have e:xk nm (y,.free) n (zV nm (n+1) r) (zV nm n r)=(y,i)::zV nm n r:=by show (match nm.lookup y with|some i=>(y,i)::zV nm n r|none=>zV nm n r)=_;rw[hi]
      show ((xk nm _ n _ _).map _).Nodup/\∀x,x∈(xk nm _ n _ _).map _->_;rw[e];exact more _ _)
 refine⟨nd,λx kd hx=>?_,λx i hx=>?_,λx y i hx hy=>ziX h4 x y i (mem_of_lookup hx) (mem_of_lookup hy),h7⟩
 .rcases h2 (x,kd) hx with(q|q)|⟨⟨q1,q2⟩,q3⟩
  .exact .inl q
  .exact .inr (.inl q)
  .obtain⟨i,hi⟩:=Option.isSome_iff_exists.mp q3;simp only at q1;subst q1;exact .inr (.inr (zqI rfl q2 i hi (qc (ES _ _ nd).1 (fr _ _ _ _ hx hi))))
 .rcases h3 (x,i) (mem_of_lookup hx) with⟨⟨q1,q2⟩,q3⟩|⟨q1,q2⟩
  .exact .inl (zu q1 q2 q3)
  .exact .inr ⟨q1,q2⟩
theorem EK.comp(E:EK env names)(hc:Ad names nm N scope.names=ag)(hk:scope.kind = .function)(C):EK (cY scope (tB env.cells scope.names []) C env) (Aa names scope.names):=by
 have CK:sV env.scope.names nm N scope.names (zV nm N scope.names) (x9 scope.names):=by rw[E.nm];exact zcN hc
 refine⟨ziO E.eo CK hk C,?_⟩;show nS _ scope.names=Aa names scope.names;unfold Aa;have:∀n,env.kindOf n=names.lookup n:=λn=>by unfold lE;rw[E.nm]
 simp only[this,E.eo.kind]
 rfl
theorem EK.stoF(E:EK env names)(h:v7 names x=ag):xn (FB env) env x:=ztV (E.var h)
theorem EK.loc(E:EK env names)(h:(names.lookup x==ae .local)=ag):env.kindOf x=ae .local:=by
 unfold lE;rw[E.nm];exact beq_iff_eq.mp h
noncomputable def AN(names:List (b7×bC))(nm:List (b7×Nat))(ps:List b7):Bool:=
 xH (names.map (·.1))&&nm.all (λp=>names.lookup p.1==ae .local||names.lookup p.1==ae .cell)&&yH nm&&xH (nm.map (·.1))&&(nm.take ps.length==ps.zipIdx)&&xH ps
theorem zcv(h:(x,i)∈nm):i<jR nm:=by
 unfold jR;have Dj:∀(l:List (b7×Nat)) (n:Nat),n<=l.foldl (λn p=>fF n (p.2+1)) n/\∀x i,(x,i)∈l->i<l.foldl (λn p=>fF n (p.2+1)) n:=by
  intro l
  induction l with
  | nil=>intro n;exact⟨ar _,λ_ _ h=>nomatch h⟩
  | cons p r ih=>
   intro n;rw[bV];have:=ih (fF n (p.2+1));refine⟨ap (lW _ _) this.1,λx i hx=>?_⟩
   rcases List.mem_cons.mp hx with e|hx
   .rw[<-e] at this ⊢;exact aS (eY i) (ap (iX _ _) this.1)
   .exact this.2 x i hx
 exact(Dj nm 0).2 x i h
theorem zjy(h:AN names nm ps=ag):uH names nm ps (jR nm):=by
 unfold AN at h;simp only[bx,lh,beq_iff_eq,lX] at h;obtain⟨⟨⟨⟨⟨h1,h2⟩,h3⟩,h4⟩,h5⟩,h6⟩:=h;have nd:=zcx h4;have hz:∀(i:Nat) p,ps[i]? = ae p->(p,i)∈nm:=λi p hp=>by
  have:(p,i)∈ps.zipIdx:=List.mk_mem_zipIdx_iff_getElem?.mpr hp;rw[<-h5] at this;exact eR this
 refine⟨zcx h1,λx i hx=>⟨zcv (mem_of_lookup hx),h2 _ (mem_of_lookup hx)⟩,λx y i hx hy=>ziX h3 x y i (mem_of_lookup hx) (mem_of_lookup hy),λx i hx p hp=>ziX h3 p x i (hz i p hp) (mem_of_lookup hx),
  λi p hp=>qc nd (hz i p hp),?_,rfl,zcx h6⟩
 rcases Nat.eq_zero_or_pos ps.length with e|e
 .rw[e];exact aE _
 .have:(ps[ps.length-1],ps.length-1)∈nm:=hz _ _ (aC (zz8 e));have:=zcv this;exact zb 0x4000a520ad006 rfl this
theorem zbQ{V:Type}{l:List V}(h:l.length=n+1):∃a r,l=a::r/\r.length=n:=by
 cases l with
 | nil=>simp at h
 | cons a r=>exact zaE a r rfl (by simpa using h)
noncomputable def Br(d:Data):Option gD:=@nT (λ_=>Option gD) d af (λ_=>af) (λ_ _=>af) (λ_ _=>af) (λ_ _ _=>af) (λ_ _=>af) (λ_=>af) ae (λ_=>af) (λ_=>af) af
theorem zqu(h:Br d=ae fd):d = .func fd:=by
 cases d with
 | func x=>exact congrArg Data.func (Hz h)
 | _=>exact nos h
noncomputable def vR(K:fE)(f:aH):Option gD:=(K.lookup f).bind λo=>Br o.data
theorem zkC(h:vR K f=ae fd):∃o,K.lookup f=ae o/\o.data = .func fd:=
 za (Option.bind_eq_some_iff.mp h) λo h1 h2=>zf o h1 (zqu h2)
end
section
variable{X:Cx}{K:fE}{U:su}{s:ay}{A:bn}{E:aD->ay->Prop}{Q:zt}
theorem zhw(name):(λe:gZ=>e.key.isStr name)=λe=>(strKind X.prog X.w).is name e.key:=by
 funext e
 cases e.key<;>rfl
theorem zgD{h:cI}(hD:h.DictOf (strKind X.prog X.w) d kvs):∃od es ep,h.get? d=ae od/\od={ cls:=.type "dict",data:=.dict es ep }/\StrKeys es/\KeysOf (strKind X.prog X.w) es/\Pairs (strKind X.prog X.w) es.toList kvs/\∀name,r7 name od=ae (gU kvs name):=by
 refine ja hD λEf es ep ho NB hd hk hp nd=>?_;obtain⟨c,dd,da,sl⟩:=Ef;obtain⟨h1,h2,h3⟩:=NB;simp only at h1 h2 h3 hd;subst h1 h2 h3 hd;have hs:StrKeys es:=λe he=>by
  refine za (hk e he) λk h1 _=>?_;obtain⟨t,h2⟩:=mR h1;exact j3 k t h2
 refine k8 _ es ep ho rfl hs hk hp (λname=>?_);have EG:es.toList.any (·.refKey)=ai:=by
  rw[List.any_eq_false];intro e he;refine z0 (hs e (Array.mem_toList_iff.mp he)) λn t h=>?_;simp[oM,h]
 have hf:=hp.find name;unfold r7;dsimp only;rw[zhw (X:=X)];cases h:es.toList.find? (λe=>(strKind X.prog X.w).is name e.key) with
 | some e=>rw[h] at hf;rw[<-hf];rfl
 | none=>rw[h] at hf;rw[<-hf,EG];rfl
theorem At.inst{x C dx:aH}{fs:List (Nat×AV)}(a:At X U s)(hx:U x=ae (.inst C dx))(hd:U dx=ae (.idict fs)) :
  ∃od:oz,InstAt s.heap x { cls:=.ref C,dict:=ae dx,data:=.plain } C (ae od)/\∀n,n<kW->∃r,r7 (zC n) od=ae r/\((kF fs n=af/\r=af)\/∃av v,kF fs n=ae av/\r=ae v/\sv U s.heap av v):=by
 have h1:=a.rep _ _ hx;refine zM (a.rep _ _ hd) λkvs hD sx hl _=>ja (zgD hD) λod es ep ho _ _ _ _ E3=>zf od ⟨h1,rfl,rfl,ho⟩ (λn hn=>(zf _ (E3 _) ?_))
 rcases sx.get hn with⟨h2,h3⟩|⟨v,y,h2,h3,r⟩
 .exact .inl ⟨h3,h2⟩
 .exact .inr (zP y v h3 h2 r)
theorem At.instNo{x C dx:aH}{fs:List (Nat×AV)}{name:b7}(a:At X U s)(hx:U x=ae (.inst C dx))(hd:U dx=ae (.idict fs))(hn:name∉tP) :
  ∃od:oz,InstAt s.heap x { cls:=.ref C,dict:=ae dx,data:=.plain } C (ae od)/\r7 name od=ae af:=by
 have h1:=a.rep _ _ hx;refine zM (a.rep _ _ hd) λkvs hD sx hl _=>ja (zgD hD) λod es ep ho _ _ _ _ E3=>zf od ⟨h1,rfl,rfl,ho⟩ ?_;rw[E3];have:∀{kvs fs},SX U s.heap kvs fs->gU kvs name=af:=by
  intro kvs fs sx
  induction sx with
  | nil=>rfl
  | @cons k x v kvs fs hk _ _ ih=>
   unfold gU at ih ⊢;have:¬zC k=name:=λe=>hn (e▸bX (zbv hk));rw[cg,H0 this];exact ih
 rw[this sx]
theorem zjJ(r:sv U h av v):handedIn v=ag:=by cases r<;>rfl
theorem zrS(KX:K.In X.h₀)(a:At X U s)(hx:U x=ae (.inst C dx))(hd:U dx=ae (.idict fs))(hn:n<kW)(hf:kF fs n=ae av)
  (hg:nU K C (zC n)=ag)(hh:li K C=ag)(hc:fT K (.ref C) (zC n)=ae af)(q:Q av (sC U)):aI X.M A (getAttr (.ref x) (zC n) expr) (sB X U s Q) E s:=by
 refine za (a.inst hx hd) λod I hl=>za (hl n hn) λr h1 h2=>?_
 rcases h2 with⟨h2,_⟩|⟨av',v,h2,rfl,rv⟩
 .rw[hf] at h2;exact absurd h2 (aA _)
 .rw[hf] at h2;obtain rfl:=Hz h2;exact get_value (KX.keeps a.keep) I (pd hg).1 (findObj_own hh hc rfl h1) (zjJ rv) (zq av U rv ⟨a.keep,a.rep,a.own,a.gens,a.os,a.ff⟩ (Step.toks ..) q)
theorem zmv{h:cI}(ho:h.get? dx=ae { cls:=.type "dict",data:=.dict es n })(hk:KeysOf (strKind X.prog X.w) es)(hp:Pairs (strKind X.prog X.w) es.toList kvs)(nd:(kvs.map (·.1)).Nodup)(name)(tk)(v) :
  ∃es' n',(h.update dx (fy name (gT X.w name) (.str name tk) v)).get? dx=ae { cls:=.type "dict",data:=.dict es' n' }/\(h.update dx (fy name (gT X.w name) (.str name tk) v)).DictOf (strKind X.prog X.w) dx (mj kvs name v):=by
 have GN:(strKind X.prog X.w).is name (.str name tk)=ag:=pQ _ _ _ _;have I4:es.findIdx? (·.key.isStr name)=es.toList.findIdx? λe=>(strKind X.prog X.w).is name e.key:=by
  rw[zhw (X:=X)];obtain⟨l⟩:=es;exact g9 _ _
 have EG:kvs.any (λkv=>decide (kv.1=name))=(es.findIdx? (·.key.isStr name)).isSome:=by
  rw[I4,hp.findIdx name,List.findIdx?_isSome]
 cases hi:es.findIdx? (·.key.isStr name) with
 | some i=>
  rw[hi] at EG;have hg:=ge (fy name (gT X.w name) (.str name tk) v) ho (by simp only[ii,fu,hi];rfl);have he:fy name (gT X.w name) (.str name tk) v { cls:=.type "dict",data:=.dict es n }={ cls:=.type "dict",data:=.dict (es.modify i λe=>{ e with val:=v }) n }:=by simp only[ii,fu,hi]
  rw[he] at hg;have hs:mj kvs name v=kvs.map λkv=>if kv.1=name then (kv.1,v) else kv:=by unfold mj;rw[EG];rfl
  refine za7 _ _ hg _ _ _ hg (zu rfl rfl rfl) rfl (λe he=>?_) ?_ (by rw[hs,keys_map_store];exact nd)
  .obtain⟨j,hj,rfl⟩:=Array.mem_iff_getElem.mp he;rw[Array.getElem_modify];rw[Array.size_modify] at hj;have:=hk es[j] (nP hj);split<;>exact this
  .rw[hs,mS];exact hp.modify nd (by rw[<-I4];exact hi) v
 | none=>
  rw[hi] at EG;have hg:=ge (fy name (gT X.w name) (.str name tk) v) ho (by simp only[ii,fu,hi];rfl);have he:fy name (gT X.w name) (.str name tk) v { cls:=.type "dict",data:=.dict es n }={ cls:=.type "dict",data:=.dict (es.push ⟨gT X.w name,.str name tk,v⟩) (n+1) }:=by simp only[ii,fu,hi]
  rw[he] at hg;have hs:mj kvs name v=kvs++[(name,v)]:=by unfold mj;rw[EG];rfl
  have Fd:name∉kvs.map (·.1):=not_mem_of_findIdx_none (by rw[<-hp.findIdx name,<-I4];exact hi);refine za7 _ _ hg _ _ _ hg (zu rfl rfl rfl) rfl (λe he=>?_) ?_ ?_
  .rcases Array.mem_push.mp he with he|rfl
   .exact hk e he
   .exact zf name GN rfl
  .rw[hs,aV];exact hp.append GN _ v
  .rw[hs,aB,fU];refine zu nd (List.nodup_cons.mpr ⟨aZ,.nil⟩) (λa ha b hb e=>?_);simp at hb;subst e;subst hb;exact Fd ha
theorem zkb{R:su->Prop}(KX:K.In X.h₀)(a:At X U s)(hx:U x=ae (.inst C dx))(hd:U dx=ae (.idict fs))(hn:n<kW)(rv:sv U s.heap av v)(hz:fs.length<100)
  (hs:fT K (.ref C) "__setattr__" = ae (ae (.builtin "object.__setattr__")))(hp:rN K C=ag)(ht:takerIn K C (zC n)=ae af)(hh:li K C=ag)(q:R (U.set dx (.idict (jl fs n av)))) :
  aI X.M A (setAttr (.ref x) (zC n) v) (λ_ s'=>∃U',At X U' s'/\Step E0 U s U' s'/\R U') E s:=by
 have KS:=KX.keeps a.keep;have I1:=a.rep _ _ hx;refine zM (a.rep _ _ hd) λkvs hD sx hl Mq=>ja (zgD hD) λod es ep D L6 Sq Qs Nt E3=>?_;subst L6;have I:InstAt s.heap x { cls:=.ref C,dict:=ae dx,data:=.plain } C (ae { cls:=.type "dict",data:=.dict es ep }):=⟨I1,rfl,rfl,D⟩
 refine set_plain KS I hs ?_;refine osa_open (s:={ s with toks:=s.toks+1 }) KS I hp ht λb=>za (any_some hh) λcd hc DC=>?_;refine G9 (Ha (G9 (G9 (my (s:={ s with toks:=s.toks+1 }) I1 (G9 (looks_clsIn KS hc _ _ _ _ (λ_ _ e=>e) ?_))))));rw[DC];refine Ha (a:=ae dx) (G9 (Ha (G9 ?_)));refine G9 (G9 (oN (Ha (G9 (nV (G9 (my D ?_)))))));have c:(!es.any (·.key.isStr (zC n))&&es.any (·.refKey))=ai:=by
  have:es.any (·.refKey)=ai:=by
   rw[Array.any_eq_false'];intro e he;refine z0 (Sq e he) λn t h=>?_;simp[oM,h]
  rw[this,r8]
 dsimp only;rw[aRefKeyMayBeTheName_at,c];refine z9 (zmv (X:=X) (h:=s.heap) D Qs Nt (zd0 hD) (zC n) (s.toks+1) v) λE7 n1 D1 Ki=>wpAny_updatePart D ?_;have Ey:E7.size<=200:=by
  refine ja Ki λ_ OJ _ h1 _ h2 _ h3 _=>?_;have e1:=h1.symm.trans D1;obtain rfl:=Hz e1;cases h2;rw[<-aN,h3.length];have:=stored_length_le kvs (zC n) v;have:=sx.length;exact zc 0x6448000884648a8001800192490d006 rfl hz (by assumption) this
 refine G9 (wpAny_lookBehind D1 (pastItsLine_dict (by rw[Hd];exact zd 0x90000000010000009d000000c890006 rfl Ey)) ?_);refine Ha ?_;have sb:=bB s.heap dx (fy (zC n) (gT X.w (zC n)) (.str (zC n) (s.toks+1)) v);exact zz (U.set dx (.idict (jl fs n av))) (a.store _ hd rfl sb λkv=>zgC a hd hn rv hD sx hz kv Ki) (Step.store _ hd rfl sb) q
end
@[irreducible] noncomputable def xe(U:su)(C:aH)(v:AV)(R:aH->aH->List (Nat×AV)->Prop):Prop:=∃p dx fs,v = .ref p/\U p=ae (.inst C dx)/\U dx=ae (.idict fs)/\R p dx fs
theorem zk(h1:U p=ae (.inst C dx))(h2:U dx=ae (.idict fs))(q:R p dx fs):xe U C (.ref p) R:=by
 unfold xe;exact jY p dx fs rfl h1 h2 q
section
variable{X:Cx}{K:fE}{U:su}{d:Dp}
def AQ(X:Cx)(C fI:aH)(d:Dp)(CA:List AV)(Q:zt)(Z:XP)(U:su):Prop:=
 ∀dx x,U dx=af->U x=af->dx≠x->sy X fI ⟨d.n+1,d.hd⟩ (.ref x::CA) (λv U'=>v = .none/\Q (.ref x) U') Z ((U.set dx (.idict [])).set x (.inst C dx))
theorem zdE(XO:X.Ok)(a:At X U s):(s.heap.objs.size==dS)=ai:=by
 have h3:(3:Nat)<s.heap.objs.size:=by
  exact jK XO.g λo es ep ho _=>aO (a.keep _ _ ho)
 have h4:¬(s.heap.objs.size:Nat)=1:=λe=>by rw[e] at h3;exact absurd h3 (by decide)
 exact beq_false_of_ne h4
theorem zo7(XO:X.Ok)(KX:K.In X.h₀)(hm:makesIn K C=ag)(hi:fT K (.ref C) "__init__" = ae (ae (.ref fI)))(hf:typeIn K (.ref fI)=ae (.type "function"))
  (L:sK X d A)(hd:d.n<590)(a:At X U s)(r:sw U s.heap CA vs)(h:AQ X C fI d CA Q Z (sC U)):Hl X.M A (.call (.ref C) ⟨vs,[]⟩) (BG X U s Q Z) s:=by
 have KS:=KX.keeps a.keep;have ns:=zdE XO a;obtain⟨hp,gn,dr,tk,os⟩:=s;refine make_core (makes_of KS hm) (nX KS hi) (λself=>bind_fn KS self hf) (.inl rfl) ?_;have n0:U hp.objs.size=af:=a.none_of_size (ar _);have n1:U (hp.objs.size+1)=af:=a.none_of_size (cG _);have a1:At X (U.set hp.objs.size (.idict [])) ⟨hp.push oO,gn,dr,tk,os⟩:=a.alloc tk λkv=>(qJ [] (pz hp) .nil (aE _) ns)
 have hsz:(hp.push oO).objs.size=hp.objs.size+1:=ij ..;have a2:=a1.alloc (o:=instObj C hp.objs.size) (ao:=.inst C hp.objs.size) tk λ_=>aM _ rfl;have st1:Step E0 U ⟨hp,gn,dr,tk,os⟩ (U.set hp.objs.size (.idict [])) ⟨hp.push oO,gn,dr,tk,os⟩:=Step.alloc a oO _ tk;have Cy:=st1.trans (Step.alloc (B:=E0) a1 (instObj C hp.objs.size) (.inst C hp.objs.size) tk);dsimp only at a2 Cy;rw[hsz] at a2 Cy;have L1:sK X ⟨d.n+1,d.hd⟩ (A.under (.builtin "type.__call__" ⟨.ref C::vs,[]⟩)):=⟨by rw[depth_under_make];have:=L.depth;show A.depth+1<=301+(d.n+1);exact zb 0x24340012d95120a0020025b2a0006 rfl this,by
  show A.units+Code.cUnits (.builtin "type.__call__" ⟨.ref C::vs,[]⟩)<=20+8*(d.n+1);have h1:Code.cUnits (.builtin "type.__call__" ⟨.ref C::vs,[]⟩)<=8:=ba (by kernel_rfl);have:=L.units;exact zc 0x915000022c000292a041400800022c000292a000680406 rfl h1 this,L.handled,by show d.n+1<=600;exact zd 0x12c4920a000093a4905006 rfl hd,L.frames⟩
 have hh:=h hp.objs.size (hp.objs.size+1) (jU n0) (jU n1) (bl (eY _));unfold sy at hh;refine Hi (hh _ _ (.ref (hp.objs.size+1)::vs) _ (by rw[jk rfl,jk rfl]) L1 a2 (.cons (.ref _) (r.mono (Cy.keepV0 a)))) λIr s' hr=>?_;cases Ir with
 | error e=>exact sE.back Cy hr
 | ok fl=>
  cases fl with
  | next=>exact hr.elim
  | brk=>exact hr.elim
  | cont=>exact hr.elim
  | ret v=>
   refine zv hr λav U' rv a' Cs Of q=>?_;subst Of;obtain rfl:=sv.wN rv;exact zcS rfl (.ref (hp.objs.size+1)) U' (.ref _) a' (Cy.trans Cs) q
end
noncomputable def kX(x:b7):Option Nat:=tP.findIdx? λy=>x==y
theorem jA(h:kX x=ae n):n<kW/\zC n=x:=by
 obtain⟨h1,h2,_⟩:=List.findIdx?_eq_some_iff_getElem.mp h;refine⟨h1,?_⟩;unfold zC;rw[aF,aC h1];exact(beq_iff_eq.mp h2).symm
theorem zfX(h:kX x=af):x∉tP:=λq=>by
 have:=List.findIdx?_eq_none_iff.mp h x q;simp at this
noncomputable def ztB(fs:List (Nat×AV))(nc:Option Nat):Bool:=match nc with|some n=>(kF fs n).isNone|none=>ag
namespace A
def zu6(C:aH)(n:Nat)(Q:zt):zt:=λv σ1=>xe σ1 C v λ_ _ fs=>zw (kF fs n) (BU Q σ1)
def zzh(X:Cx)(f:aH)(d:Dp)(p:aH)(Q:zt)(Z:XP):List AV->su->Prop:=λas σ2=>sy X f d (.ref p::as) Q Z σ2
def kMc(X:Cx)(C:aH)(nc:Option Nat)(f:aH)(ms:List AE)(d:Dp)(l:Loc)(Q:zt)(Z:XP):zt:=λv σ1=>xe σ1 C v λp _ fs=>uh (ztB fs nc) (vr ms d l (zzh X f d p Q Z) Z σ1)
def zzl(C:aH)(n:Nat)(l:Loc)(Q:je)(av:AV):zt:=λv σ2=>xe σ2 C v λ_ dx fs=>uh (iB fs.length 100) (Q .next l (σ2.set dx (.idict (jl fs n av))))
def kSa(C:aH)(n:Nat)(x:AE)(d:Dp)(l:Loc)(Q:je)(Z:uN):zt:=λav σ1=>x d l (zzl C n l Q av) (kZ Z l) σ1
def wT(C:aH)(n:Nat)(x:AE):AE:=λd l Q Z U=>x d l (zu6 C n Q) Z U
def wJ(X:Cx)(C:aH)(nc:Option Nat)(f:aH)(x:AE)(ms:List AE):AE:=λd l Q Z U=>x d l (kMc X C nc f ms d l Q Z) Z U
def wW(C:aH)(n:Nat)(x mv:AE):AS:=λd l Q Z U=>mv d l (kSa C n x d l Q Z) (kZ Z l) U
def new(X:Cx)(C fI:aH)(ms:List AE):AE:=λd l Q Z U=>vr ms d l (λas U'=>d.n<590/\AQ X C fI d as Q Z U') Z U
end A
section
variable{X:Cx}{K:fE}{env:fB}{nm:List (b7×Nat)}{names:List (b7×bC)}
theorem zge(h:xe (sC U) C v R):∃p dx fs,v = .ref p/\U p=ae (.inst C dx)/\U dx=ae (.idict fs)/\R p dx fs:=by
 unfold xe at h;obtain⟨p,dx,fs,e,h1,h2,q⟩:=h;exact jY p dx fs e ((zH h1).1) ((zH h2).1) q
theorem ztY(G:Gd X K)(hn:n<kW)(hs:zC n=name)(hg:nU K C name=ag)(hh:li K C=ag)(hc:fT K (.ref C) name=ae af)(hb:∀e,iH o name e (fm o e)=fm o e)(hx:zi X env nm o x) :
  zi X env nm (.Attribute o name pos) (A.wT C n x):=λd A l U s Q Z L a F q=>by
 rw[arm_eval_Attribute,hb];subst hs;refine G9 (zak (hx d A l U s _ Z L a F q) λav v σ1 s1 rv a1 st1 q1=>?_);obtain⟨p,dx,fs,rfl,hp,hd,q1⟩:=zge q1;obtain⟨av,hf,q1⟩:=zh q1;obtain rfl:=sv.wK rv;refine G9 (Hj ?_);refine G9 (Hc (Hb (jN st1 (zrS (Q:=Q) (E:=sE X σ1 s1 Z) G.inn a1 hp hd hn hf hg hh hc q1)) (λr s2 h2=>?_) λ_ _ e=>e));exact G9 (wpAny_letTemporaryGo (Ha h2))
theorem zrN(G:Gd X K)(hg:nU K C name=ag)(hf:fT K (.ref C) name=ae (ae (.ref f)))(ht:s9 K (.ref f)=ag)(ho:K.lookup f=ae ob)(EM:ob.data = .func fd)
  (hb:∀e,iH o name e (fm o e)=fm o e)(hl:(Dz.endLine==pos.line)=ag)(hn:decide (es.length<30)=ag)(hx:zi X env nm o x)(h:sL X env nm es ms) :
  zi X env nm (.Call (.Attribute o name Dz) es [] pos) (A.wJ X C (kX name) f x ms):=λd A l U s Q Z L a F q=>by
 rw[arm_eval_Call,hb];refine G9 (zak (hx d A l U s _ Z L a F q) λav v σ1 s1 rv a1 st1 q1=>?_);obtain⟨p,dx,fs,rfl,hp,hd,q1⟩:=zge q1;obtain⟨Fd,q1⟩:=qX q1;obtain rfl:=sv.wK rv;refine G9 (Hj ?_);have h1:(fo pos (cZ es env)).all (λx=>!x.1)=ag:=by
  rw[l8];simp only[rZ];rw[h.plain];rfl
 have LH:methodCallForm (es.length+([]:List nY).length) (fo pos (cZ es env)) (backToKw pos (pe [] env))=ag:=by
  unfold methodCallForm;rw[h1];show (ag&&ag&&decide (es.length+0+0<30))=ag
  simpa using hn
 have EH:methodCallPos ag o env Dz pos=b9 pos:=by unfold methodCallPos;simp[hl]
 obtain⟨od,I,k1⟩:∃od:oz,InstAt s1.heap p { cls:=.ref C,dict:=ae dx,data:=.plain } C (ae od)/\r7 name od=ae af:=by
  cases hc:kX name with
  | none=>exact a1.instNo hp hd (zfX hc)
  | some n=>
   obtain⟨c1,rfl⟩:=jA hc;refine za (a1.inst hp hd) λod I E3=>?_;obtain⟨r,h2,h3⟩:=E3 n c1;rw[hc] at Fd
   rcases h3 with⟨_,rfl⟩|⟨_,_,h3,_⟩
   .exact zf od I h2
   .have Fd:(kF fs n).isNone=ag:=Fd;rw[h3] at Fd;exact nob Fd
 unfold methodCall;rw[LH];refine G9 (Hc (method_fn (G.inn.keeps a1.keep) I (pd hg).1 (pd hg).2 hf (beq_iff_eq.mp ht) (by show (r7 name od).map _=_;rw[k1];rfl) ?_));refine G9 (cQ EH ?_);refine mm (o:=ob) (fd:=fd) (Hb (qg h L a1 (F.step a st1) q1 λvs s2 hv=>?_) (λ_ _ x=>x) λ_ _ x=>x.back st1);refine zj hv λE9 σ2 r2 a2 Cy q2=>⟨⟨a2.keep _ _ (G.inn _ _ ho),EM⟩,?_⟩
 exact jN (st1.trans Cy) (q2.call L a2 (.cons (.ref p) r2))
theorem zrO(G:Gd X K)(hn:n<kW)(EL:zC n=name)(hs:fT K (.ref C) "__setattr__" = ae (ae (.builtin "object.__setattr__")))(hp:rN K C=ag)(ht:takerIn K C name=ae af)(hh:li K C=ag)
  (hw:gk value (ae (.Attribute o name pos')) pos.line env=b9 ai)(hv:zi X env nm value mv)(hx:zi X env nm o x) :
  jz X env nm (.Assign [.Attribute o name pos'] value pos) (A.wW C n x mv):=λd A l U s Q Z L a F q=>by
 subst EL;refine plainObj_wpAny_Assign_Attribute (Hb (hv d A l U s _ _ L a F q) (λv s1 x=>?_) λ_ _ x=>x.toS a F) hw;refine zj x λav σ1 rv a1 st1 q1=>?_;have F1:=F.step a st1;have FI:=st1.weaken (B':=FB env) FB.wQ;refine Hb (hx d A l σ1 s1 _ _ L a1 F1 q1) (λu s2 x=>?_) λ_ _ x=>(x.toS a1 F1).back FI;refine zj x λbv σ2 ru a2 Ed q2=>?_;obtain⟨p,dx,fs,rfl,h1,h2,q2⟩:=zge q2;obtain⟨h3,q2⟩:=qX q2;obtain rfl:=sv.wK ru;have F2:=F1.step a1 Ed;have DW:=FI.trans (Ed.weaken (B':=FB env) FB.wQ);refine Hb (zkb (R:=λU'=>U'=σ2.set dx (.idict (jl fs n av))) G.inn a2 h1 h2 hn (rv.mono (Ed.keepV0 a1)) (Nat.blt_eq.mp h3) hs hp ht hh rfl) (λ_ s3 x=>?_) λ_ _ e=>e;refine zl x λσ3 a3 CI KE=>?_;subst KE;exact zK .next l _ trivial a3 (F2.step a2 CI) (DW.trans (CI.weaken FB.wQ)) (by rw[jk rfl];exact q2)
theorem zvM(G:Gd X K)(E:EK env names)(hc:rC K Hn g=ae (ae (.ref C)))(hg:jQ names g=ag)(Qb:keepIn K (.ref C)=ag)(hm:makesIn K C=ag)
  (hi:fT K (.ref C) "__init__" = ae (ae (.ref fI)))(hf:typeIn K (.ref fI)=ae (.type "function"))(h:sL X env nm es ms) :
  zi X env nm (.Call (.Name g gp) es [] pos) (A.new X C fI ms):=λd A l U s Q Z L a F q=>by
 refine oY (qH G.ok E.eo a (E.glob hg).1 (E.glob hg).2 (rO G.inn G.ok.g hc) ?_);refine callWith_of (P:=λh=>K.In h) (by rw[h.plain];rfl) (λhp X'=>keeps_K Qb hp X') (qg h L a F q λvs s1 hv=>?_);refine zv hv λE9 σ1 r a1 st hd q1=>⟨G.inn.keeps a1.keep,?_⟩
 exact jN st (lF (Hi (zo7 G.ok G.inn hm hi hf L hd a1 r q1) λIr s' x=>x))
end
def A.wH:AS:=λ_ _ _ _ _=>False
theorem zig{X:Cx}{env:fB}{nm:List (b7×Nat)}{st:iR}:jz X env nm st A.wH:=λ_ _ _ _ _ _ _ _ _ _ q=>q.elim
@[irreducible] noncomputable def wh(p:aH)(k x:AV)(R:su->Prop)(U:su):Prop:=(∃kvs row,U p=ae (.tdict kvs)/\k=zE row/\kvs.length<1000000/\R (U.set p (.tdict (sP.put kvs row x))))\/
 (∃fs n,U p=ae (.idict fs)/\k = .str n/\fs.length<100/\R (U.set p (.idict (jl fs n x))))\/
 (∃xs i,U p=ae (.list xs)/\k = .int i/\0<=i/\i.toNat<xs.length/\R (U.set p (.list (xs.set i.toNat x))))
theorem zeI(h:U p=ae (.tdict kvs))(hl:kvs.length<1000000)(q:R (U.set p (.tdict (sP.put kvs row x)))):wh p (zE row) x R U:=by
 unfold wh;exact .inl (zq kvs row h rfl hl q)
theorem kg(h:U p=ae (.idict fs))(hl:fs.length<100)(q:R (U.set p (.idict (jl fs n x)))):wh p (.str n) x R U:=by
 unfold wh;exact .inr (.inl (zq fs n h rfl hl q))
noncomputable def AJ(kvs:List (AV×AV))(fs:List (Nat×AV)):Option (List (Nat×AV)):=match kvs with|[]=>ae fs|p::r=>p.1.str?.bind λn=>AJ r (jl fs n p.2)
def Al(ps:List (AE×AE))(d:Dp)(l:Loc)(Q:List (AV×AV)->su->Prop)(Z:XP)(U:su):Prop:=match ps with|[]=>Q [] U|p::r=>p.1 d l (λk σ1=>p.2 d l (λv σ2=>Al r d l (λkvs σ3=>Q ((k,v)::kvs) σ3) Z σ2) Z σ1) Z U
namespace A
def kD4(l:Loc)(S:je)(σ4:su):Prop:=S .next l σ4
def kD3(a b:AV)(l:Loc)(S:je):zt:=λc σ3=>Aj b λp=>wh p c a (kD4 l S) σ3
def kD2(k:AE)(a:AV)(d:Dp)(l:Loc)(S:je)(SZ:uN):zt:=λb σ2=>k d l (kD3 a b l S) (kZ SZ l) σ2
def kD1(x k:AE)(d:Dp)(l:Loc)(S:je)(SZ:uN):zt:=λa σ1=>x d l (kD2 k a d l S SZ) (kZ SZ l) σ1
def wR(v x k:AE):AS:=λd l S SZ U=>v d l (kD1 x k d l S SZ) (kZ SZ l) U
def dic(ps:List (AE×AE)):AE:=λd l Q Z U=>∀r,U r=af->Al ps d l (λkvs σ1=>σ1 r=ae (.idict [])/\zw (AJ kvs []) λfs=>Q (.ref r) (σ1.set r (.idict fs))) Z (U.set r (.idict []))
def dT0:AE:=λd l Q Z U=>∀r,U r=af->Q (.ref r) (U.set r (.tdict []))
def dT1(k v:AE):AE:=λd l Q Z U=>∀r,U r=af->k d l (λa σ1=>v d l (λb σ2=>∃row,a=zE row/\σ2 r=ae (.tdict [])/\Q (.ref r) (σ2.set r (.tdict [(row,b)]))) Z σ1) Z (U.set r (.tdict []))
end A
section
variable{X:Cx}{env:fB}{nm:List (b7×Nat)}{U:su}{s:ay}{d:Dp}{A:bn}{E:aD->ay->Prop}
theorem zoH(ho:s.heap.get? p=ae (zY us n))(h0:0<=i)(hi:i.toNat<us.length)(hl:us.length<=1000000)(q:Q () { s with heap:=s.heap.update p (aX (·.setIfInBounds i.toNat v)) }):aI X.M A (pG (.ref p) (.int i tk) v) Q E s:=by
 have hL:s.heap.IsList p us.toArray:=(qa _ ho rfl n rfl)
 obtain⟨y,hx⟩:∃y,us.toArray[i.toNat]? = ae y:=⟨us[i.toNat],by simp[hi]⟩
 have Fg:i<2 ^ 63:=by lia
 unfold pG
 try with_reducible refine Hc ?_
 first|refine G9 (Ha ?_)|skip
 refine G9 (wpAny_sequenceKey hL.typeIs (by decide) ?_);refine G9 (wpAny_callSpecial?_slot (name:=nZ "__setitem__") hL.typeIs o0 (Hg o0 hL.typeIs entry_list_setitem ?_ (args_list_setitem _ _ _)));show aI _ _ (Builtin.List.listSubscript? (.int i tk) >>= _) _ _ s;refine G9 (wpAny_listSubscript_int (fitsIndex_of h0 Fg) ?_);clear Fg;obtain⟨j,rfl⟩:=d7 h0;refine G9 (G9 (wpAny_seqItemAt ho rfl (Ha ?_)));rw[dI] at hx q;rw[hx];refine G9 (wpAny_setSeqItemAt ho rfl ?_)
 first
  | exact G9 (Ha (Ha (zf .none rfl (Ha q))))
  | exact Ha ⟨.none,rfl,Ha q⟩
theorem sw.set(r:sw U h xs vs)(rx:sv U h x v):∀n,sw U h (xs.set n x) (vs.set n v):=by
 induction xs generalizing vs with
 | nil=>intro n;obtain rfl:=sw.wG r;exact .nil
 | cons y xs ih=>
  obtain⟨_,_,rfl,a,r⟩:=sw.wF r;intro n;cases n with
  | zero=>exact .cons rx r
  | succ n=>exact .cons a (ih r n)
theorem zmw(L:sK X d A)(a:At X U s)(rk:sv U s.heap k u)(rv:sv U s.heap x v)(q:wh p k x R (sC U)):aI X.M A (pG (.ref p) u v) (λ_ s'=>∃U',At X U' s'/\Step E0 U s U' s'/\R (sC U')) E s:=by
 unfold wh at q
 rcases q with⟨kvs,row,hp,rfl,hl,q⟩|⟨fs,n,hp,rfl,hl,q⟩|⟨xs,i,hp,rfl,h0,hi,q⟩
 .exact zrG L a (zH hp).1 rk rv hl λs' a' st=>(zz _ a' st (by rw[jk rfl];exact q))
 .exact ztQ a (zH hp).1 rk rv hl λs' a' st=>(zz _ a' st (by rw[jk rfl];exact q))
 .have hp:=(zH hp).1;refine zm (a.rep _ _ hp) λus n ho ru hl=>?_;obtain⟨tk,rfl⟩:=sv.wC rk;have Ct:=ru.length;exact zoH ho h0 (zzG hi Ct) (zxM hl Ct) (zj (zb7 (Q:=λ_ U'=>R U') (ys:=xs.set i.toNat x) (ws:=us.set i.toNat v) (x:=.none) (v:=.none) a hp ho (·.setIfInBounds i.toNat v) (by simp) (ru.set rv _) (by rw[pA];exact hl) .none q) λav U' r' a' Cs q'=>zz U' a' Cs q')
end
section
variable{X:Cx}{env:fB}{nm:List (b7×Nat)}{U:su}{s:ay}
theorem zjW(hv:zi X env nm value mv)(hx:zi X env nm o mx)(hk:zi X env nm i mk)(hs:gk value (ae (.Subscript o i pos')) pos.line env=b9 ai) :
  jz X env nm (.Assign [.Subscript o i pos'] value pos) (A.wR mv mx mk):=λd A l U s Q Z L a F q=>by
 refine wpAny_Assign_Subscript (Hb (hv d A l U s _ _ L a F q) (λv s1 x=>?_) λ_ _ x=>x.toS a F) hs;refine zj x λav σ1 rv a1 st1 q1=>?_;have F1:=F.step a st1;have FI:=st1.weaken (B':=FB env) FB.wQ;refine Hb (hx d A l σ1 s1 _ _ L a1 F1 q1) (λu s2 x=>?_) λ_ _ x=>(x.toS a1 F1).back FI;refine zj x λbv σ2 ru a2 Ed q2=>?_;have F2:=F1.step a1 Ed;have DW:=FI.trans (Ed.weaken (B':=FB env) FB.wQ);refine Hb (hk d A l σ2 s2 _ _ L a2 F2 q2) (λw s3 x=>?_) λ_ _ x=>(x.toS a2 F2).back DW;refine zj x λcv σ3 tI a3 GE q3=>?_;have F3:=F2.step a2 GE;have IY:=DW.trans (GE.weaken (B':=FB env) FB.wQ);have Oo:=(rv.mono (Ed.keepV0 a1)).mono (GE.keepV0 a2);have Sg:=ru.mono (GE.keepV0 a2);refine za (zhW q3) λp Ee q3=>?_;subst Ee;obtain rfl:=sv.wK Sg;refine Hb (zmw L a3 tI Oo q3) (λ_ s4 x=>?_) λ_ _ e=>e;exact zl x λσ4 a4 CZ q4=>zK .next l _ trivial a4 (F3.step a3 CZ) (IY.trans (CZ.weaken FB.wQ)) q4
theorem zo6(XO:X.Ok)(a:At X U s):At X (U.set s.heap.objs.size (.tdict [])) { s with heap:=s.heap.push { cls:=.type "dict",data:=.dict #[] } }/\Step E0 U s (U.set s.heap.objs.size (.tdict [])) { s with heap:=s.heap.push { cls:=.type "dict",data:=.dict #[] } }:=
 ⟨a.alloc s.toks λ_=>(jh (#[]) 0 (aM _ rfl) .nil .nil (by simp) (zdE XO a)),Step.alloc a _ _ s.toks⟩
theorem zvm(XO:X.Ok)(a:At X U s):At X (U.set s.heap.objs.size (.idict [])) { s with heap:=s.heap.push { cls:=.type "dict",data:=.dict #[] } }/\Step E0 U s (U.set s.heap.objs.size (.idict [])) { s with heap:=s.heap.push { cls:=.type "dict",data:=.dict #[] } }:=
 ⟨a.alloc s.toks λ_=>(qJ [] (pz _) .nil (aE _) (zdE XO a)),Step.alloc a _ _ s.toks⟩
theorem zmM(XO:X.Ok):zi X env nm (.Dict [] [] pos) A.dT0:=λd A l U s Q Z L a F q=>by
 have h:=zo6 XO a;exact oP (zq (.ref _) _ (.ref _) h.1 h.2 (by rw[jk rfl];exact q _ (jU (a.none_of_size (ar _)))))
theorem zmN(XO:X.Ok)(hk:zi X env nm ke mk)(hv:zi X env nm ve mv):zi X env nm (.Dict [ae ke] [ve] pos) (A.dT1 mk mv):=λd A l U s Q Z L a F q=>by
 have hn:=zo6 XO a;have a0:=hn.1;have CH:=hn.2;refine wpAny_Dict_any rfl rfl (by simp) (by simp) ?_;have F0:=F.step a CH;have q0:=q _ (jU (a.none_of_size (ar _)));rw[<-jk rfl] at q0;show aI X.M A (do
  let kv <-fm ke env
  let vv <-holding [kv] (do let x <-fm ve env;pF pos;b9 x)
  return (kv,vv)::(<-holding [kv,vv] (evalPairs []))) _ _ _
 refine G9 (Hb (hk d A l _ _ _ _ L a0 F0 q0) (λkv s1 x=>?_) λ_ _ x=>x.back CH);refine zj x λak σ1 rk a1 st1 q1=>G9 (Hc (G9 (Hb (hv d A l σ1 s1 _ _ L a1 (F0.step a0 st1) q1) (λvv s2 x=>?_) λ_ _ x=>x.back (CH.trans st1))));refine zj x λax σ2 rx a2 Cy q2=>G9 (Hj (Ha (G9 (Hc (Ha (Ha ?_))))));have RD:=rk.mono (Cy.keepV0 a1);refine zl q2 λrow FT hp q3=>?_;subst FT;refine Hf _ (λCC _ s'=>(CC=[(kv,vv)]/\s'=s2)\/(CC=[]/\∃σ3,At X σ3 s'/\Step E0 σ2 s2 σ3 s'/\Q (.ref s.heap.objs.size) (sC σ3))) _ ?_ ?_ _ _ (.inl ⟨rfl,rfl⟩)
 .rintro x CC b s' (⟨e,rfl⟩|⟨e,_⟩)
  .cases e;exact G9 (zrF L a2 (zH hp).1 RD rx (by decide) λs4 a4 CZ=>Ha (.inr (zga rfl _ a4 CZ (by rw[jk rfl];exact q3))))
  .cases e
 .rintro b s' (⟨e,_⟩|⟨_,σ3,a3,CI,q4⟩)
  .cases e
  .exact zq (.ref _) σ3 (.ref _) a3 (CH.trans (st1.trans (Cy.trans CI))) q4
inductive sY(X:Cx)(env:fB)(nm:List (b7×Nat)):List (Option Expr)->List Expr->List (AE×AE)->Prop
 | nil:sY X env nm [] [] []
 | cons {k v ks vs mk mv ms}:zi X env nm k mk->zi X env nm v mv->sY X env nm ks vs ms->sY X env nm (ae k::ks) (v::vs) ((mk,mv)::ms)
inductive tw(U:su)(h:cI):List (AV×AV)->List (aD×aD)->Prop
 | nil:tw U h [] []
 | cons {k x u v kvs uvs}:sv U h k u->sv U h x v->tw U h kvs uvs->tw U h ((k,x)::kvs) ((u,v)::uvs)
theorem tw.mono(k:sA U h U' h')(r:tw U h kvs uvs):tw U' h' kvs uvs:=by
 induction r with
 | nil=>exact .nil
 | cons a b _ ih=>exact .cons (a.mono k) (b.mono k) ih
theorem zhY(h:sY X env nm ks vs ms):∀{d A l U s Q Z},sK X d A->At X U s->FR X env nm l U s.heap->Al ms d l Q Z (sC U)->
  aI X.M A (evalPairs (pairTrees ks vs env pos)) (λuvs s'=>∃kvs U',kvs.length=ms.length/\tw U' s'.heap kvs uvs/\At X U' s'/\Step E0 U s U' s'/\Q kvs (sC U')) (sE X U s Z) s:=by
 induction h with
 | nil=>intro d A l U s Q Z L a F q;exact evalPairs_nil ⟨[],U,rfl,.nil,a,.refl ..,q⟩
 | @cons k v ks vs mk mv ms hk hv r ih=>
  intro d A l U s Q Z L a F q;refine evalPairs_cons (Hb (hk d A l U s _ Z L a F q) (λkv s1 x=>?_) λ_ _ x=>x);refine zj x λak σ1 rk a1 st1 q1=>G9 (Hb (hv d A l σ1 s1 _ Z L a1 (F.step a st1) q1) (λvv s2 x=>?_) λ_ _ x=>x.back st1);refine zj x λax σ2 rx a2 Cy q2=>G9 (Hj (Ha ?_));refine Hb (ih L a2 ((F.step a st1).step a1 Cy) q2) (λuvs s3 x=>?_) λ_ _ x=>x.back (st1.trans Cy);exact zv x λkvs σ3 NH r3 a3 CI q3=>jh ((ak,ax)::kvs) σ3 (by rw[au,au,NH]) (.cons ((rk.mono (Cy.keepV0 a1)).mono (CI.keepV0 a2)) (rx.mono (CI.keepV0 a2)) r3) a3 (st1.trans (Cy.trans CI)) q3
theorem zin:∀{uvs:List (aD×aD)} {kvs:List (AV×AV)} {fs gs:List (Nat×AV)} {U:su} {s:ay} {S:PUnit->ay->Prop},At X U s->tw U s.heap kvs uvs->U p=ae (.idict fs)->AJ kvs fs=ae gs->fs.length+kvs.length<100->
  (∀U' s',At X U' s'->Step E0 U s U' s'->sC U'=(sC U).set p (.idict gs)->S PUnit.unit s')->aI X.M A (storeAll p uvs) S E s:=by
 intro uvs;unfold storeAll
 induction uvs with
 | nil=>
  intro kvs fs gs U s S a r hp ht hl q;cases r;cases ht;refine Ha (q U s a (.refl ..) ?_)
  funext b
  by_cases hb:b=p
  .subst hb;rw[su.wA];exact zj8 hp rfl
  .rw[su.wB _ _ hb]
 | cons uv uvs ih=>
  intro kvs fs gs U s S a r hp ht hl q;cases r with
  | @cons k x u v kvs _ rk rx r=>
   refine za (Option.bind_eq_some_iff.mp ht) λn h1 h2=>?_;have h1:=zrz h1;have h1:k = .str n:=h1;subst h1;rw[au] at hl;rw[pn];refine G9 (G9 (ztP a hp rk rx (zAO hl) λs1 a1 st1=>Ha ?_));have:=zdb fs n x;refine ih a1 (r.mono (st1.keepV0 a)) (su.wA ..) h2 (zCn hl this) λU' s' a' Cs e=>q U' s' a' (st1.trans Cs) ?_;rw[e,jk rfl]
   funext b
   by_cases hb:b=p
   .subst hb;rw[su.wA,su.wA]
   .rw[su.wB _ _ hb,su.wB _ _ hb,su.wB _ _ hb]
theorem sY.all(h:sY X env nm ks vs ms):ks.all (·.isSome)=ag/\ks.length=vs.length/\ms.length=ks.length:=by
 induction h with
 | nil=>exact⟨rfl,rfl,rfl⟩
 | cons _ _ _ ih=>exact zu (by simpa using ih.1) (by rw[au,au,ih.2.1]) (by rw[au,au,ih.2.2])
theorem zmO(XO:X.Ok)(h:sY X env nm ks vs ms)(hl:ks.length<=15):zi X env nm (.Dict ks vs pos) (A.dic ms):=λd A l U s Q Z L a F q=>by
 have hn:=zvm XO a;have a0:=hn.1;have CH:=hn.2;have q0:=q _ (jU (a.none_of_size (ar _)));rw[<-jk rfl] at q0
 by_cases he:ks=[]
 .subst he;cases h;obtain⟨_,q1⟩:=q0;refine oP (zq (.ref _) _ (.ref _) a0 CH ?_);have e:(sC (U.set s.heap.objs.size (.idict []))).set s.heap.objs.size (.idict [])=sC (U.set s.heap.objs.size (.idict [])):=by
   rw[jk rfl]
   funext b
   by_cases hb:b=s.heap.objs.size
   .subst hb;rw[su.wA,su.wA]
   .rw[su.wB _ _ hb]
  rw[<-e];exact q1
 .have ha:=h.all;refine wpAny_Dict_any ha.1 ha.2.1 he hl (Hb (zhY h L a0 (F.step a CH) q0) (λuvs s1 x=>?_) λ_ _ x=>x.back CH);refine zd5 x λkvs σ1 RI r1 a1 st1 hp q1=>za (zh q1) λfs ht q2=>?_;have Kv:kvs.length<100:=by have:=ha.2.2;lia
  exact zin a1 r1 (zH hp).1 ht (by simpa using Kv) λσ2 s2 a2 Cy e=>(zq (.ref _) σ2 (.ref _) a2 (CH.trans (st1.trans Cy)) (by rw[e];exact q2))
end
noncomputable def AL(e:Expr):Bool:=!(ch e.ctorIdx 8||Nat.beq e.ctorIdx 9||Nat.beq e.ctorIdx 10)
theorem zdr(h:AL e=ag)(t)(line)(env):gk e t line env=b9 ai:=by
 cases e<;>first|rfl|exact nob h
theorem zj3(e)(o)(x)(p)(line)(env):gk e (ae (.Attribute o x p)) line env=b9 ai:=by
 cases e<;>rfl
theorem zna(e)(o i)(p)(line)(env):gk e (ae (.Subscript o i p)) line env=b9 ai:=by
 cases e<;>rfl
noncomputable def ut:List aD:=[.type "ValueError",.type "Exception",.type "BaseException",.type "object"]
structure t7(h:cI)(C:aH)(tl:List aH):Prop where
 ex:∃nm q N bs hdct sn sub ab col dd k0 k1 k2 k3 k5 mN,h.get? C=ae (excClassObj nm q C N bs (tl.map .ref++ut) hdct sn sub ab col dd k0 k1 k2 k3 k5 "ValueError.__new__")/\h.Ns N mN/\mN "__init__" = af/\OwnTail h ut (tl.map .ref++ut)
theorem zlf(tl:List aH):(tl.map cO++ut).contains (.type "BaseException")=ag:=by
 induction tl with
 | nil=>rfl
 | cons a r ih=>rw[aY,oQ,nu,ih,o5]
namespace A
def wV(C:aH):AS:=λd l _ SZ U=>wU d (SZ C l U)
def vE(b:AS)(Iy:List aH)(n:Option Nat)(h:AS):AS:=λd l S SZ U=>wU d (b d l S (λc l' U'=>uh (Iy.contains c) (match n with
 | none=>h ⟨d.n,ag⟩ l' S (λ_ _ _=>False) U'
 | some i=>h ⟨d.n,ag⟩ (l'.set i (ae (.exc c))) (λf Mi DI=>S f (Mi.set i af) DI) (λ_ _ _=>False) U')) U)
end A
section
variable{X:Cx}{env:fB}{nm:List (b7×Nat)}
theorem zih(XO:X.Ok)(EO:sF env)(hx:env.kindOf x=ae .globalImplicit)(hd:(x==("__debug__" : b7))=ai)(hv:X.mg x=ae (.ref C))(hC:t7 X.h₀ C tl) :
  jz X env nm (.Raise (ae (.Call (.Name x np) [.Constant (.str t) k cp] [] cpos)) af pos) (A.wV C):=λd A l U s Q Z L a F q=>by
 obtain⟨hh,q⟩:=qw q;refine qs hC.ex λKP qC N bs hdct sn sub ab col dd k0 k1 k2 k3 k5 mN h1 h2 h3 h4=>zO (wpAny_Raise_call_subT (nm:=KP) (q:=qC) (bs:=bs) (hdct:=hdct) (sn:=sn) (sub:=sub) (ab:=ab) (col:=col) (dd:=dd) (k0:=k0) (k1:=k1) (k2:=k2) (k3:=k3) (k5:=k5) (C:=C) (N:=N) (bm:=tl.map .ref++ut) (bmB:=ut) (mN:=mN) PySem.F.excBase_ValueError (zlf tl) (L.handled hh) rfl h3 (qH XO EO a hx hd hv ⟨rfl,?_⟩));refine d0 (bt (nV (cy ?_)));refine jP rfl (by show 1<=fO;rw[Hd];decide) (a.keep _ _ h1) (h2.keeps a.keep) (h4.keeps a.keep) (λh' e hm hz=>?_);have kp:∀b o,s.heap.get? b=ae o->h'.get? b=ae o:=hm.keeps;refine zl hm.there λtu he _ _=>?_;have st:Step E0 U s U { s with heap:=h',toks:=s.toks+1 }:=.grown U _ kp hz;have a':At X U { s with heap:=h',toks:=s.toks+1 }:=a.grown _ kp;have F':=F.step a st;have ex:∃vs,h'.get? e=ae (ua C vs):=⟨_,he⟩
 exact qu C l U e h' rfl ⟨λo eo=>(by rw[show s.heap.get? e=af from hm.new] at eo;exact nos eo),FB.w7 F' ex⟩ a' F' (st.weaken FB.wQ) ⟨λb o eb _=>⟨o.slots,eb⟩,λb o eb _ _=>eb,ex,ar _,_,he,.inl rfl⟩ q
end
section
variable{M:rI}{A:bn}{E:aD->ay->Prop}{h:cI}{g:Array iQ}{d:Drawn}{t:Nat}{os:rR}{C':aH}{tl MF:List aH}
theorem zly(hC:t7 h c tl)(Na:t7 h C' MF)(he:h.get? e=ae oe)(Ni:oe.cls = .ref c)(hq:Q ((cO c::(tl.map cO++ut)).contains (.ref C')) ⟨h,g,d,t,os⟩):aI M A (excMatches (.ref e) (.ref C')) Q E ⟨h,g,d,t,os⟩:=by
 refine jO hC.ex λKP qC N bs hdct sn sub ab col dd k0 k1 k2 k3 k5 mN h1 _=>jO Na.ex λRm qC' N' bs' OP sn' Sd ab' QR dd' k0' k1' k2' k3' k5' mN' E2 _=>?_;have RW:(cO C'::(MF.map cO++ut)).contains (.type "BaseException")=ag:=by rw[nu,zlf,o5]
 have f:=tc_notTuple
 repeat (first|(with_reducible refine o6 he ?_;rw[Ni])|with_reducible refine o6 E2 ?_|(with_reducible refine mT E2 ?_;rw[RW])|with_reducible refine mT h1 ?_|wp_step)
 generalize (cO c::(tl.map cO++ut)).contains (.ref C')=b at hq ⊢;cases b<;>(wp_walk;exact hq)
end
theorem t7.keeps(x:t7 h C tl)(k:∀b o,h.get? b=ae o->h'.get? b=ae o):t7 h' C tl:=by
 exact qs x.ex λKP qC N bs hdct sn sub ab col dd k0 k1 k2 k3 k5 mN h1 h2 h3 h4=>⟨KP,qC,N,bs,hdct,sn,sub,ab,col,dd,k0,k1,k2,k3,k5,mN,k _ _ h1,h2.keeps k,h3,h4.keeps k⟩
section
variable{X:Cx}{env:fB}{nm:List (b7×Nat)}{l:Loc}{U:su}{s:ay}
theorem zmp(EO:sF env)(F:FR X env nm l U s.heap)(a:At X U s)(hx:nm.lookup n=ae i)(hk:env.kindOf n=ae .local)
  (h:∀s',FR X env nm (l.set i af) U s'.heap->At X U s'->Step (FB env) U s U s'->Q () s'):aI M A (do bindName env n .none;unbindBehindTheSuite env n pos) Q E s:=by
 refine G9 (wpAny_bindName (zbx EO F a hx hk .none λs1 F1 a1 st1=>?_));refine wpAny_onRaise (za F1.ns λm hn hm=>?_);have hv:m n=ae .none:=by
  have h1:=hm n i hx hk;have GP:i<l.length:=F.nmok.1 n i hx;rw[qO _ _ _ _ GP,if_pos rfl] at h1;cases e:m n with
  | none=>rw[e] at h1;exact h1.elim
  | some v=>rw[e] at h1;cases h1;rfl
 refine wpAny_unbindName_local hk hn hv (by rw[EO.kind];rfl) λh' u CQ Cz=>?_;have kv:sA U s1.heap U h':=.mk' λb o e st=>(Cz.2 b (by rintro rfl;exact jZ hn o e st)).trans e;have GP:i<l.length:=F.nmok.1 n i hx;refine h _ ⟨(zf _ CQ (λy j hy Dw=>?_)),λy j hy Dw=>?_,F1.out,by have:=F.nmok;simpa using this,by have:=F.len;simpa using this,λy c hy=>?_⟩ (a1.aside (t:=s1.toks) F1.out.1 F1.out.2 (jZ hn) (λ_=>zi0 CQ) Cz) ((st1.weaken λb hb=>.inl hb).trans (Step.aside (t:=s1.toks) (.inl rfl) Cz))
 .rw[qO _ _ _ _ GP]
  by_cases DY:y=n
  .subst DY;rw[hx] at hy;obtain rfl:=Hz hy;rw[if_pos rfl];trivial
  .have FW:j≠i:=λe=>DY (F.nmok.2 y n i (e▸hy) hx);have h1:=hm y j hy Dw;rw[qO _ _ _ _ GP,if_neg FW] at h1;rw[if_neg FW,if_neg DY];exact h1.mono kv
 .refine zm (F1.cell y j hy Dw) λc w hc Dq hr=>?_;have DY:y≠n:=by rintro rfl;rw[hk] at Dw;cases Dw
  have FW:j≠i:=λe=>DY (F.nmok.2 y n i (e▸hy) hx);rw[qO _ _ _ _ GP,if_neg FW] at hr ⊢;exact zP c w hc (Dq.sameBut Cz (bO (kN hn Dq))) (hr.mono kv)
 .exact kz (F1.outc y c hy) λh1 h2 w Dq=>zag h1 h2 w (Dq.sameBut Cz (bO (kN hn Dq)))
theorem FR.fly(F:FR X env nm l U g)(f:tr X U g x c s.heap):FR X env nm l U s.heap:=by
 have kv:=f.keepV;have CL:=FB.w7 F f.exg;refine za F.ns λm N1 hm=>jx N1 λo es ep ho hd r=>?_;obtain⟨sl,CM⟩:=f.keepS _ _ ho λq=>CL (.inl q.symm);have DO:∀y b o v,(y,b)∈env.cells->g.get? b=ae o->o.data = .cell v->s.heap.get? b=ae o:=λy b o v hy e hd=>f.keepX b o e (λq=>CL (.inr ⟨y,q▸hy⟩)) (.inl λes n q=>by rw[hd] at q;cases q);refine⟨(zf m (kH _ es ep CM hd r) (λy i hy hk=>(hm y i hy hk).mono kv)),λy i hy hk=>?_,F.out,F.nmok,F.len,λy b hy=>?_⟩
 .exact zm (F.cell y i hy hk) λb v hc JD hr=>za JD λo ho hd=>zP b v hc (zf o (DO y b o v (mem_of_lookup hc) ho hd) hd) (hr.mono kv)
 .exact kz (F.outc y b hy) λh1 h2 v Lj=>za Lj λo ho hd=>zag h1 h2 v (zf o (DO y b o v hy ho hd) hd)
end
section
variable{X:Cx}{env:fB}{nm:List (b7×Nat)}
theorem zqt{U σ1:su}{s s1:ay}{g h:cI}{x c:aH}(a:At X U s)(a1:At X σ1 { s1 with heap:=g })(hx:ww U s x)(f:tr X σ1 g x c h):X.h₀.get? x=af:=by
 cases e:X.h₀.get? x with
 | none=>rfl
 | some o=>
  have e1:=a.keep _ _ e;have h1:=hx _ e1;obtain⟨vs,h2⟩:=f.exg;have h5:g.get? x=ae o:=a1.keep _ _ e;rw[h5] at h2;obtain rfl:=Hz h2;exact absurd (a.stays e1 (.inr (.inr (zaE c vs rfl rfl)))) h1
def zyI(env:fB)(nm:List (b7×Nat))(name:Option b7)(i:Option Nat):Prop:=name.elim (i.elim True λ_=>False) λn=>i.elim False λi=>nm.lookup n=ae i/\env.kindOf n=ae .local
theorem zm6(XO:X.Ok)(EO:sF env)(N9:X.top=ae env)
  (hT:env.kindOf T=ae .globalImplicit)(Rz:(T==("__debug__" : b7))=ai)(hv:X.mg T=ae (.ref C'))(Na:t7 X.h₀ C' MF)(hh:∀c∈Iy,∃tl,t7 X.h₀ c tl/\(cO c::(tl.map cO++ut)).contains (.ref C')=ag)
  (hn:zyI env nm name i)(hb:j9 X env nm body m)(hs:j9 X env nm (b0::bs) h) :
  jz X env nm (.Try body [.ExceptHandler (ae (.Name T tp)) name (b0::bs) EH] [] [] pos) (A.vE m Iy i h):=λd A l U s Q Z L a F q=>by
 obtain⟨hd,q⟩:=qw q;refine wpAny_Try_except (Hb (hb d A l U s _ _ L a F q) (λf s1 x=>?_) λe s1 x=>?_)
 .cases f with|next=>exact gJ x|ret v=>exact x|brk=>exact x|cont=>exact x
 obtain⟨c,l1,σ1,x,g,rfl,⟨hx,hfb⟩,a1,F1,st1,f,z⟩:=x;obtain⟨hc,z⟩:=qX z;obtain⟨tl,hCc,FV⟩:=hh c (List.contains_iff_mem.mp hc);obtain⟨envs,Ds,FO,ht⟩:=L.frames;obtain⟨CV,rfl⟩:=ht env N9;obtain⟨_,Lf,hf,_⟩:=FO.is env aj;have Fo:=ziQ FO a1 f;have Fv:=zqt a a1 hx f;refine tr.note FO Ds hf a1 f λh2 f2 t2=>?_;refine sX.vD (s:={ s1 with heap:=h2 }) Fo f2 t2 λh3 f3 t3=>?_;have a3:At X σ1 { s1 with heap:=h3 }:=tr.at (s:={ s1 with heap:=h3 }) FO.out a1 Fv f3;obtain⟨vs,he,_⟩:=f3.exh;have LM:sK X ⟨d.n,ag⟩ (A.mark (ae (.ref x))):=⟨L.depth,L.units,(λq=>nomatch q),L.small,_,Ds,FO,λe he=>ht e he⟩
 refine wpAny_handleBy_cons (codeAny_handlers_test (qH XO EO a3 hT Rz hv ?_)) (by intro q;cases q);refine zly (hCc.keeps a3.keep) (Na.keeps a3.keep) he rfl ?_;rw[FV];cases name with
 | none=>
  cases i with
  | some _=>exact hn.elim
  | none=>
   refine codeAny_handlers_suite (sX.vD (s:={ s1 with heap:=h3 }) Fo f3.b t3 λh4 f4 t4=>?_);have a4:At X σ1 { s1 with heap:=h4 }:=tr.at (s:={ s1 with heap:=h4 }) FO.out a1 Fv f4;have F4:=FR.fly (s:={ s1 with heap:=h4 }) F1 f4;have CZ:Step (FB env) U s σ1 { s1 with heap:=h4 }:=tr.step (s:={ s1 with heap:=h4 }) hx st1 f4;exact Hb (hs ⟨d.n,ag⟩ _ l1 σ1 _ _ _ LM a4 F4 z) (λfl s5 y=>y.back CZ) λ_ _ y=>zrg y
 | some n=>
  cases i with
  | none=>exact hn.elim
  | some i=>
   obtain⟨ET,DL⟩:=hn;refine codeAny_handlers_suite_as (sX.vD (s:={ s1 with heap:=h3 }) Fo f3.b t3 λh4 f4 t4=>?_);have a4:At X σ1 { s1 with heap:=h4 }:=tr.at (s:={ s1 with heap:=h4 }) FO.out a1 Fv f4;have F4:=FR.fly (s:={ s1 with heap:=h4 }) F1 f4;have CZ:Step (FB env) U s σ1 { s1 with heap:=h4 }:=tr.step (s:={ s1 with heap:=h4 }) hx st1 f4;refine za f4.exh λvs he _=>zbx EO F4 a4 ET DL (.exc he) λs5 F5 a5 DE=>Hb (hs ⟨d.n,ag⟩ _ _ σ1 s5 _ _ LM a5 F5 z) (λfl s6 y=>?_) λ_ _ y=>zrg y;refine jB y λIU l6 σ6 r6 a6 F6 Fs q6=>zmp EO F6 a6 ET DL λs7 F7 a7 HC=>zK IU _ σ6 ?_ a7 F7 (((CZ.trans (DE.weaken λb hb=>.inl hb)).trans Fs).trans HC) q6;cases IU with
   | next=>cases fl<;>exact r6
   | ret v=>
    cases fl with
    | ret w=>exact sv.mono (HC.keepV a6 F6.noStay) r6
    | _=>exact r6
end
theorem ziC{V:Type}{o:Option V}{p:V->Bool}(h:o.any p=ag):∃a,o=ae a/\p a=ag:=by
 cases o with
 | none=>exact nob h
 | some a=>exact zf a rfl h
noncomputable def C8(d:Data):Option (Array gZ):=@nT (λ_=>Option (Array gZ)) d af (λ_=>af) (λ_ _=>af) (λes _=>ae es) (λ_ _ _=>af) (λ_ _=>af) (λ_=>af) (λ_=>af) (λ_=>af) (λ_=>af) af
theorem zsT(h:C8 d=ae es):∃n,d = .dict es n:=by
 cases d with
 | dict x n=>exact⟨n,congrArg (λx=>Data.dict x n) (Hz h)⟩
 | _=>exact nos h
noncomputable def Az(d:Data):Option ClassData:=@nT (λ_=>Option ClassData) d af (λ_=>af) (λ_ _=>af) (λ_ _=>af) (λ_ _ _=>af) (λ_ _=>af) (λ_=>af) (λ_=>af) ae (λ_=>af) af
theorem znI(h:Az d=ae cd):d = .cls cd:=by
 cases d with
 | cls x=>exact congrArg Data.cls (Hz h)
 | _=>exact nos h
theorem zrA{v:aD}(h:ch v.ctorIdx 6=ag):∃x t,v = .str x t:=by
 cases v with
 | str x t=>exact⟨x,t,rfl⟩
 | _=>exact nob h
noncomputable def B5(K:fE)(N:aH):Bool:=(K.lookup N).any λo=>(C8 o.data).any λes=>es.all (λe=>ch e.key.ctorIdx 6)&&(nsFind es "__init__").isNone
theorem zo9{K:fE}(X:K.In h)(e:B5 K N=ag):∃m,h.Ns N m/\m "__init__" = af:=by
 refine za (ziC e) λo ho e=>za (ziC e) λes hd e=>zQ (zsT hd) λn hd=>jC (Bool.and_eq_true_iff.mp e) λe1 e2=>?_;exact zf _ (jY o es n (X _ _ ho) hd (λx hx=>zrA (Array.all_eq_true_iff_forall_mem.mp e1 x hx)) (λ_=>rfl)) (Option.isNone_iff_eq_none.mp e2)
noncomputable def zyO(K:fE)(A:aH):Bool:=(K.lookup A).any λo=>(Az o.data).any λcd=>B5 K cd.ns
noncomputable def BL(sl:Array (Option aD)):Bool:=match sl.toList with|[_,_,_,_,k,_]=>k==ae (.builtin "ValueError.__new__")|_=>ai
theorem ztR(h:BL ⟨l⟩=ag):∃k0 k1 k2 k3 k5,l=[k0,k1,k2,k3,ae (.builtin "ValueError.__new__"),k5]:=by
 cases l with
 | nil=>exact nob h
 | cons k0 l=>cases l with
  | nil=>exact nob h
  | cons k1 l=>cases l with
   | nil=>exact nob h
   | cons k2 l=>cases l with
    | nil=>exact nob h
    | cons k3 l=>cases l with
     | nil=>exact nob h
     | cons k4 l=>cases l with
      | nil=>exact nob h
      | cons k5 l=>cases l with|nil=>exact⟨k0,k1,k2,k3,k5,congrArg (λk=>[k0,k1,k2,k3,k,k5]) (H7 h)⟩|cons k6 l=>exact nob h
noncomputable def Cc(K:fE)(C:aH)(tl:List aH):Bool:=tl.all (zyO K)&&(K.lookup C).any λo=>o.cls==.type "type"&&BL o.slots&&(Az o.data).any λcd=>cd.mro==.ref C::(tl.map .ref++ut)&&!cd.hasDel&&B5 K cd.ns
theorem zdB{K:fE}(X:K.In h)(e:Cc K C tl=ag):t7 h C tl:=by
 obtain⟨e0,e1⟩:=Bool.and_eq_true_iff.mp e;clear e;have tail:OwnTail h ut (tl.map .ref++ut):=by
  clear e1
  induction tl with
  | nil=>exact .base
  | cons A r ih=>
   obtain⟨e1,e2⟩:=Bool.and_eq_true_iff.mp e0;refine za (ziC e1) λo ho e1=>za (ziC e1) λcd hd e1=>za (zo9 X e1) λm hn hi=>?_;have hd:=znI hd;obtain⟨oc,od,oda,osl⟩:=o;cases hd;exact .own (X _ _ ho) hn hi (ih e2)
 refine za (ziC e1) λo ho e1=>jC (Bool.and_eq_true_iff.mp e1) λe2 e3=>jC (Bool.and_eq_true_iff.mp e2) λe4 e5=>za (ziC e3) λcd hd e3=>jC (Bool.and_eq_true_iff.mp e3) λe6 e7=>jC (Bool.and_eq_true_iff.mp e6) λe8 e9=>?_;have hd:=znI hd;clear e0 e1 e2 e3 e6;obtain⟨oc,od,oda,⟨osl⟩⟩:=o;refine za (zo9 X e7) λm hn hi=>?_;have f1:oc = .type "type":=H7 e4;have f2:cd.mro = .ref C::(tl.map .ref++ut):=H7 e8;clear e4 e8;subst f1;refine zd7 (ztR e5) λk0 k1 k2 k3 k5 f3=>?_;clear e5;subst f3;obtain⟨c1,c2,c3,c4,c5,c6,c7,c8,c9,c10,c11⟩:=cd;dsimp only at f2 e9 hn hd;subst f2 hd;cases c11 with
 | true=>exact nob e9
 | false=>exact⟨_,_,_,_,_,_,_,_,_,_,_,_,_,_,_,m,X _ _ ho,hn,hi,tail⟩
theorem zlx{E:aD->ay->Prop}{s:ay}{K:fE}{Q:Option aD->ay->Prop}(X:K.In s.heap)(e:s.heap.get? x=ae (ua D vs))(Qv:fT K (.ref D) "__getattribute__" = ae (ae (.builtin "BaseException.__getattribute__")))(ND:fT K (.ref D) "__getattr__" = ae af)
  (hf:findObj K D af "__class__" = ae (.bind (.builtin "getset_descriptor.__get__") (.builtin "object.__class__")))(hm:mroIn K D (.type "object")=ae ag)(hmB:mroIn K D (.type "BaseException")=ae ag)(k:Q (ae (.ref D)) { s with toks:=s.toks+1 }):aI (bq prog w) A (pT (.ref x) "__class__") Q E s:=by
 obtain⟨hh,g,d,t,os⟩:=s;have I:InstAt hh x (ua D vs) D af:=⟨e,rfl,rfl,trivial⟩
 have L0:=I.type (M:=bq prog w);have L1:=nX (M:=bq prog w) X Qv;have L2:=nX (M:=bq prog w) X ND;have L3:=looks_find (M:=bq prog w) X I hf;have LB:=looks_mroIn (M:=bq prog w) X hmB;unfold pT getAttrBy? getAttrBy;refine G9 (nV (G9 (iM (Hc (G9 (L0.at (G9 (L1.at ?_))))))));unfold getAttrByItsOwn;refine G9 (show aI _ _ (lH (.ref D) "__getattr__") _ _ _ from L2.at ?_);refine G9 (iM (Hc ?_));show aI _ _ (boundAndCalled (.builtin "BaseException.__getattribute__") (.ref x) (.str "__class__" t)) _ _ _;unfold boundAndCalled;refine G9 (cQ (PySem.F.excAttr_ValueError.ga.bind (.ref x)) ?_);refine lF (gC PySem.F.excAttr_ValueError.ga.plain PySem.F.entry_bexc_ga ?_);have LI:Looks (bq prog w) hh (isInstance (.ref x) (.type "BaseException")) ag:=L0.andThen LB;show aI _ _ (gt "BaseException.__getattribute__" ⟨[.ref x,.str "__class__" t],[]⟩) _ _ _;refine G9 (LI.at ?_)
 repeat (any_goals (first|assumption|with_reducible refine L0.at ?_|with_reducible refine L3.at ?_|wp_step))
 exact class_get (s:=⟨hh,g,d,t+1,os⟩) (ox:=ua D vs) (od:=af) X I hm (Ha (handed_on rfl (Ha k)))
structure uC(K:fE)(D:aH)(tl:List aH):Prop where
 b:Cc K D tl=ag
 hg:fT K (.ref D) "__getattribute__" = ae (ae (.builtin "BaseException.__getattribute__"))
 hg2:fT K (.ref D) "__getattr__" = ae af
 hf:findObj K D af "__class__" = ae (.bind (.builtin "getset_descriptor.__get__") (.builtin "object.__class__"))
 hm:mroIn K D (.type "object")=ae ag
 hmB:mroIn K D (.type "BaseException")=ae ag
theorem zoy{K:fE}{x D:aH}{tl:List aH}(I:uC K D tl):KitX K (.ref x) (.ref D) (λh=>∃vs,h.get? x=ae (ua D vs)):=by
 have inst:∀{h:cI} {vs:Array aD},h.get? x=ae (ua D vs)->InstAt h x (ua D vs) D af:=λe=>⟨e,rfl,rfl,trivial⟩
 have PD:∀(h:cI),K.In h->∃o cd,h.get? D=ae o/\o.data = .cls cd:=λh X=>by
  exact jO ((zdB X I.b).ex) λKP qC N bs hdct sn sub ab col dd k0 k1 k2 k3 k5 mN h1 _=>zaE _ _ h1 rfl
 refine⟨λM h _ ⟨vs,e⟩=>(inst e).type,λM h X _=>?_,λh tp dd its n sl X Sb=>?_,λ{prog w A E Q s} X ⟨vs,e⟩ k=>?_⟩
 .refine z9 (PD h X) λo cd h1 h2=>?_;obtain⟨oc,od,oda,osl⟩:=o;cases h2;intro A' Q' E' s' k q;unfold isType loadHead;exact G9 (my (k _ _ h1) (Ha q))
 .refine Bool.eq_false_iff.mpr λq=>?_;have e:D=tp:=Value.ref.inj (beq_iff_eq.mp q);subst e;refine z9 (PD h X) λo cd h1 h2=>?_;rw[Sb] at h1;obtain rfl:=Hz h1;cases h2
 .exact zlx X e I.hg I.hg2 I.hf I.hm I.hmB k
noncomputable def AV.exc?(v:AV):=v.excE cP ae
theorem zqs{x:AV}(h:x.exc? = ae c):x = .exc c:=by
 cases x with
 | exc j=>exact congrArg AV.exc (Hz h)
 | _=>exact nos h
namespace A
def isx(tab:List (aH×Bool))(x:AE):AE:=λd l Q Z U=>x d l (λv σ1=>zw v.exc? λc=>zw (tab.lookup c) λb=>Q (.bool b) σ1) Z U
end A
section
variable{X:Cx}{K:fE}{env:fB}{nm:List (b7×Nat)}
theorem zmT{tab:List (aH×Bool)}(XO:X.Ok)(KI:K.In X.h₀)(EO:sF env)(hx:env.kindOf "isinstance" = ae .globalImplicit)(hn:X.mg "isinstance" = af)(hv:X.mb "isinstance" = ae (.builtin "isinstance"))
  (hT:∀(A:bn) (s:ay) (U:su) (Q:aD->ay->Prop) (E:aD->ay->Prop),At X U s->Q cv s->aI X.M A (fm (.Name Tn tp) env) Q E s)
  (OG:∀c b,tab.lookup c=ae b->kitOne K (.ref c) cv=ae b/\∃tl,uC K c tl)(hs:jo e=ag)(h:zi X env nm e m) :
  zi X env nm (.Call (.Name "isinstance" gp) [e,.Name Tn tp] [] pos) (A.isx tab m):=λd A l U s Q Z L a F q=>by
 refine oY (jd XO EO a hx (by decide) hn hv ?_);refine dh ?_ ?_
 .rw[zL hs];rfl
 rw[zL hs];refine d0 ?_;show aI X.M A (mL ((ai,fm e env)::fo pos (cZ [.Name Tn tp] env))) _ _ s;refine bt (zak (h d A l U s _ Z L a F q) λav v σ1 s1 rv a1 st1 q1=>?_);show aI X.M A (mL ((ai,fm (.Name Tn tp) env)::[])) _ _ s1;refine bt (hT A s1 σ1 _ _ a1 (cy ?_));refine za (zh q1) λc hc q2=>za (zh q2) λb hb q3=>?_;have hc:=zqs hc;subst hc;refine znV (OG c b hb) λhk tl I=>?_;cases rv with
 | exc ho=>
  refine jN st1 (kia_one (zoy I) (λx y z=>a1.keep _ _ (KI x y z)) ⟨_,ho⟩ hk (λq=>nomatch q) λtk=>?_);exact zaj a1 (.bool b) q3
end
def uE(U:su)(x y:AV)(t:Bool):Prop:=∃a b,Rd U x a/\Rd U y b/\a.depth<=100/\b.depth<=100/\uc a b=ae t
def y8(xs:List AV):Prop:=(∀x∈xs,∃i r,x = .tup (.int i::r))\/∀x∈xs,∃i,x = .int i
@[irreducible] noncomputable def xL(r:Bool)(xs:List AV)(Q:zt)(U:su):Prop:=∃Y:AV->Nat,y8 xs/\(∀x∈xs,∀y∈xs,uE U x y (decide (Y x<Y y)))/\∀ys,ys.Perm xs->ys.Pairwise (λx y=>Y x<=Y y)->tO r ys Q U
def xw:tZ:=λ_ r as Q U=>tM as λx=>zw (jq U x) λxs=>xL r xs Q U
noncomputable def xA(v:AV):Nat:=v.tupE 0 dH
@[irreducible] noncomputable def A0(r:Bool)(xs:List AV)(Q:zt)(U:su):Prop:=(∀x∈xs,∃l,x = .tup l)/\∀ys,ys.Perm xs->ys.Pairwise (λx y=>xA x<=xA y)->tO r ys Q U
@[irreducible] noncomputable def yg(X:Cx)(f:aH)(r:Bool)(d:Dp)(xs:List AV)(Q:zt)(U:su):Prop:=∃(key:AV->AV) (Y:AV->Nat),d.n<590/\(∀x∈xs,sy X f ⟨d.n+1,d.hd⟩ [x] (λk U'=>k=key x/\U'=U) (λ_ _=>False) U)/\(∀x∈xs,∃i r,key x = .tup (.int i::r))/\
 (∀x∈xs,∀y∈xs,uE U (key x) (key y) (decide (Y x<Y y)))/\∀ys,ys.Perm xs->ys.Pairwise (λx y=>Y x<=Y y)->tO r ys Q U
namespace A
def w2(r:Bool)(m:AE):AE:=λd l Q Z U=>m d l (λv σ1=>zw (jq σ1 v) λxs=>A0 r xs Q σ1) Z U
def w9(X:Cx)(f:aH)(r:Bool)(m:AE):AE:=λd l Q Z U=>m d l (λv σ1=>zw (jq σ1 v) λxs=>yg X f r d xs Q σ1) Z U
end A
structure SB(κ:d4)(a₀:Array Hw)(st:aQ):Prop where
 perm:(Hv st).Perm a₀
 kind:kindOf st=κ
 failed:dY st=af
noncomputable def Rk(Y:Hw->Nat)(xs:Array Hw)(i:Nat):Nat:=match xs[i]? with|some p=>Y p|none=>0
def sQ(Y:Hw->Nat)(xs:Array Hw)(a b:Nat):Prop:=∀i j,a<=i->i<=j->j<b->Rk Y xs i<=Rk Y xs j
def uU(Y:Hw->Nat)(xs:Array Hw)(a b:Nat):Prop:=∀i j,a<=i->i<=j->j<b->Rk Y xs j<=Rk Y xs i
def tq(xs ys:Array Hw)(a b:Nat):Prop:=∀k,(k<a\/b<=k)->ys[k]? = xs[k]?
theorem j5(h:xs[i]? = ys[j]?):Rk Y xs i=Rk Y ys j:=by unfold Rk;rw[h]
theorem zff(hs:src<xs.size)(hd:d<=src)(k) :
  Rk Y (bubble xs src d) k=if k=src-d then Rk Y xs src else if src-d<k/\k<=src then Rk Y xs (k-1) else Rk Y xs k:=by
 have e:=pB hs d hd k;split at e
 .rw[if_pos (by assumption)];exact j5 e
 .rw[if_neg (by assumption)];split at e
  .rw[if_pos (by assumption)];exact j5 e
  .rw[if_neg (by assumption)];exact j5 e
theorem zcJ(hj:j<=xs.size)(k) :
  Rk Y (f7 xs i j ((j-i)/2)) k=if i<=k/\k<j then Rk Y xs (i+j-1-k) else Rk Y xs k:=by
 have e:=mU (i:=i) hj k;split at e
 .rw[if_pos (by assumption)];exact j5 e
 .rw[if_neg (by assumption)];exact j5 e
theorem zax(hj:j<=xs.size)(he:∀k,i<=k->k<j->Rk Y xs k=Rk Y xs (j-1))(k):Rk Y (f7 xs i j ((j-i)/2)) k=Rk Y xs k:=by
 rw[zcJ hj];split
 .rw[he _ (zB5 (by assumption)) (zB4 (by assumption)),he k (zB3 (by assumption)) (zCa (by assumption))]
 .rfl
theorem tq.refl(xs)(a b):tq xs xs a b:=λ_ _=>rfl
theorem tq.trans(h:tq xs ys a b)(h':tq ys zs a b):tq xs zs a b:=λk hk=>(h' k hk).trans (h k hk)
theorem tq.wide(h:tq xs ys a b)(h1:a'<=a)(h2:b<=b'):tq xs ys a' b':=λk hk=>h k (zEM h1 h2 hk)
theorem zaM(hj:j<=xs.size):tq xs (f7 xs i j ((j-i)/2)) i j:=λk hk=>by
 rw[mU hj,if_neg (zB8 hk)]
theorem zjA(hs:src<xs.size)(hd:d<=src):tq xs (bubble xs src d) (src-d) (src+1):=λk hk=>by
 rw[pB hs d hd,if_neg (zB2 hk),if_neg (zB9 hk)]
theorem SB.size{κ:d4}{st:aQ}(h:SB κ a₀ st):(Hv st).size=a₀.size:=h.perm.size_eq
theorem SB.setArr{κ:d4}{st:aQ}(h:SB κ a₀ st)(hp:xs.Perm (Hv st)):SB κ a₀ (PyProof.Rows.setArr st xs):=⟨hp.trans h.perm,h.kind,h.failed⟩
theorem SB.at_{κ:d4}{st:aQ}(h:SB κ a₀ st)(hi:i<a₀.size):∃p,(Hv st)[i]? = ae p/\p∈a₀.toList:=by
 have EY:i<(Hv st).size:=by rw[h.size];exact hi
 exact zf ((Hv st)[i]) (getElem?_pos _ i EY) ((Array.perm_iff_toList_perm.mp h.perm).mem_iff.mp (by simp))
def qL(prog:Hk)(w:cV)(A:bn)(s:ay)(κ:d4)(Y:Hw->Nat)(a₀:Array Hw):Prop:=
 ∀p q,p∈a₀.toList->q∈a₀.toList->∀(Q:Bool->ay->Prop) (E:aD->ay->Prop),Q (decide (Y p<Y q)) s->aI (bq prog w) A (keyLt' κ p.1 q.1) Q E s
section
variable{prog:Hk}{w:cV}{A:bn}{E:aD->ay->Prop}{s:ay}{a₀:Array Hw}{κ:d4}{Y:Hw->Nat}
theorem zpx(H:qL prog w A s κ Y a₀){st:aQ}(hB:SB κ a₀ st)(hp:p∈a₀.toList)(hq:q∈a₀.toList)(h:Q (ae (decide (Y p<Y q))) st):mJ (bq prog w) A E s (lt' p q) Q st:=by
 rw[lt'_eq];refine Ho (gY ?_);rw[hB.kind];refine Ho (lj (iM (H p q hp hq _ _ ⟨rfl,?_⟩)));exact Hp h
theorem jj{st:aQ}(hp:arr[i]? = ae p)(h:Q p st):mJ (bq prog w) A E s (fe arr i) Q st:=by
 rw[elem'_eq,hp];exact Hp h
theorem zeO(H:qL prog w A s κ Y a₀){st:aQ}(hB:SB κ a₀ st)(hi:i<a₀.size)(hj:j<a₀.size)(h:Q (ae (decide (Rk Y (Hv st) i<Rk Y (Hv st) j))) st) :
  mJ (bq prog w) A E s (ltAt' i j) Q st:=by
 refine za (hB.at_ hi) λp e1 h1=>za (hB.at_ hj) λq e2 h2=>?_;rw[ltAt'_eq];refine Ho (gY ?_);refine Ho (jj e1 (Ho (jj e2 (zpx H hB h1 h2 ?_))));unfold Rk at h;rw[e1,e2] at h;exact h
theorem zbu{st:aQ}(h:Q () (setArr st (f7 (Hv st) i j ((j-i)/2)))):mJ (bq prog w) A E s (gz i j) Q st:=by
 rw[reverseSlice'_eq];exact gu h
end
noncomputable def yc(lo a Cv:Nat):StateT aQ lu AscSt:=
 iA [a:Cv] ((af,a):AscSt) λ_ r=>do
  let x <-ltAt' (lo+r.snd) (lo+r.snd-1)
  match x with
  | some smaller=>if smaller=ag then b9 (dQ (af,r.snd)) else b9 (ce (af,r.snd+1))
  | _=>b9 (dQ (ae af,r.snd))
noncomputable def yd(lo n Cv:Nat):StateT aQ lu (Option Nat):=do
 gz lo (lo+n)
 let r <-yc lo n Cv
 match r.fst with
 | some r=>b9 r
 | none=>b9 (ae r.snd)
noncomputable def yu(lo n Cv:Nat):StateT aQ lu DescSt:=
 iA [n:Cv] ((af,n,0):DescSt) λ_ r=>do
  let x <-ltAt' (lo+r.snd.fst) (lo+r.snd.fst-1)
  match x with
  | some smaller=>
   if smaller=ag then
    if r.snd.snd>0 then do
     gz (lo+r.snd.fst-(r.snd.snd+1)) (lo+r.snd.fst)
     b9 (ce (af,r.snd.fst+1,0))
    else b9 (ce (af,r.snd.fst+1,0))
   else do
    let x <-ltAt' (lo+r.snd.fst-1) (lo+r.snd.fst)
    match x with
    | some larger=>
     if larger=ag then b9 (dQ (af,r.snd.fst,r.snd.snd))
     else b9 (ce (af,r.snd.fst+1,r.snd.snd+1))
    | _=>b9 (dQ (ae af,r.snd.fst,r.snd.snd))
  | _=>b9 (dQ (ae af,r.snd.fst,r.snd.snd))
noncomputable def xN(lo n Cv:Nat):StateT aQ lu (Option Nat):=do
 liftM (sq "list.sort.descending-run")
 let r <-yu lo (n+1) Cv
 match r.fst with
 | some r=>b9 r
 | none=>
  if r.snd.snd>0 then do
   gz (lo+r.snd.fst-(r.snd.snd+1)) (lo+r.snd.fst)
   yd lo r.snd.fst Cv
  else yd lo r.snd.fst Cv
theorem zg9(lo Cv):rP lo Cv=(do
  let r <-yc lo 1 Cv
  match r.fst with
  | some r=>b9 r
  | none=>
   if (r.snd==Cv)=ag then b9 (ae r.snd)
   else if r.snd>1 then do
    let x <-ltAt' lo (lo+r.snd-1)
    match x with
    | some rose=>if rose=ag then b9 (ae r.snd) else do
      gz lo (lo+r.snd)
      xN lo r.snd Cv
    | _=>b9 af
   else xN lo r.snd Cv):=by
 rw[countRun'_eq];unfold xN yd yu yc;dsimp only
 congr 1
 funext r
 obtain⟨r,n⟩:=r;cases r with
 | some r=>rfl
 | none=>
  dsimp only;split
  .rfl
  .split
   .congr 1
    funext x
    cases x with
    | none=>rfl
    | some rose=>
     dsimp only;split
     .rfl
     .congr 1
      funext _r
      congr 1;funext _u;congr 1;congr 1;funext s2;obtain⟨r2,n2,q2⟩:=s2
      cases r2 with
      | some r2=>rfl
      | none=>
       dsimp only;split
       .congr 1;funext _v;congr 1;funext _w;congr 1;funext s3;obtain⟨r3,n3⟩:=s3;cases r3<;>rfl
       .congr 1;funext _w;congr 1;funext s3;obtain⟨r3,n3⟩:=s3;cases r3<;>rfl
   .congr 1;funext _u;congr 1;congr 1;funext s2;obtain⟨r2,n2,q2⟩:=s2
    cases r2 with
    | some r2=>rfl
    | none=>
     dsimp only;split
     .congr 1;funext _v;congr 1;funext _w;congr 1;funext s3;obtain⟨r3,n3⟩:=s3;cases r3<;>rfl
     .congr 1;funext _w;congr 1;funext s3;obtain⟨r3,n3⟩:=s3;cases r3<;>rfl
section
variable{prog:Hk}{w:cV}{A:bn}{E:aD->ay->Prop}{s:ay}{a₀:Array Hw}{κ:d4}{Y:Hw->Nat}
theorem sQ.snoc{xs:Array Hw}{lo x:Nat}(h:sQ Y xs lo (lo+x))(hx:1<=x)(h':Rk Y xs (lo+x-1)<=Rk Y xs (lo+x)):sQ Y xs lo (lo+(x+1)):=λi j hi CJ hj=>by
 by_cases J8:j<lo+x
 .exact h i j hi CJ J8
 .have e:j=lo+x:=by exact zc 0x20d002388344828031922a068905006 rfl hj J8
  subst e
  by_cases EY:i=lo+x
  .rw[EY];exact ar _
  .exact ap (h i (lo+x-1) hi (zx0 CJ EY) (zub hx)) h'
theorem uU.snoc{xs:Array Hw}{lo x:Nat}(h:uU Y xs lo (lo+x))(hx:1<=x)(h':Rk Y xs (lo+x)<=Rk Y xs (lo+x-1)):uU Y xs lo (lo+(x+1)):=λi j hi CJ hj=>by
 by_cases J8:j<lo+x
 .exact h i j hi CJ J8
 .have e:j=lo+x:=by exact zc 0x20d002388344828031922a068905006 rfl hj J8
  subst e
  by_cases EY:i=lo+x
  .rw[EY];exact ar _
  .exact ap h' (h i (lo+x-1) hi (by exact zx0 CJ EY) (zub hx))
theorem zsy(H:qL prog w A s κ Y a₀){st:aQ}{lo a Cv:Nat}{Q:AscSt->aQ->Prop}(hn:lo+Cv<=a₀.size)(ha:1<=a)(PP:a<=Cv)(hB:SB κ a₀ st)(hs:sQ Y (Hv st) lo (lo+a))
  (h:∀n,a<=n->n<=Cv->sQ Y (Hv st) lo (lo+n)->(n=Cv\/Rk Y (Hv st) (lo+n)<Rk Y (Hv st) (lo+n-1))->Q (af,n) st):mJ (bq prog w) A E s (yc lo a Cv) Q st:=by
 unfold yc;refine Hs (I:=λx c Cs=>Cs=st/\c=(af,x)/\sQ Y (Hv st) lo (lo+x)) ?step ?fin (zu rfl rfl hs)
 case fin=>
  intro c Cs Da;refine jg Da λIW Dy Cz=>?_;subst IW;subst Dy;rw[show fF a Cv=Cv by exact zxG PP] at Cz ⊢;exact h Cv PP (ar _) Cz (.inl rfl)
 case step=>
  intro x c Cs IJ Ew CY;refine jg CY λIt Ee Cz=>?_;subst It;subst Ee;dsimp only;refine Ho (zeO H hB (zp7 hn Ew) (zuq hn Ew) ?_)
  by_cases hl:Rk Y (Hv Cs) (lo+x)<Rk Y (Hv Cs) (lo+x-1)
  .simp only[hl,decide_true,if_true];exact Hp (h x IJ (zgV Ew) Cz (.inr hl))
  .simp only[hl,decide_false,aT,if_false];exact Hp (zu rfl rfl (Cz.snoc (zp2 ha IJ) (zxN hl)))
structure tY(κ:d4)(Y:Hw->Nat)(a₀:Array Hw)(st:aQ)(lo Cv m:Nat)(Cs:aQ):Prop where
 sb:SB κ a₀ Cs
 m1:1<=m
 le:m<=Cv
 srt:sQ Y (Hv Cs) lo (lo+m)
 out:tq (Hv st) (Hv Cs) lo (lo+Cv)
 pend:Hr Cs=Hr st
theorem zpw(H:qL prog w A s κ Y a₀){st Et:aQ}{lo n Cv:Nat}{Q:Option Nat->aQ->Prop}(hn:lo+Cv<=a₀.size)(h1:1<=n)(E5:n<=Cv)(hB:SB κ a₀ st)(hs:uU Y (Hv st) lo (lo+n))
  (ho:tq (Hv Et) (Hv st) lo (lo+Cv))(hp:Hr st=Hr Et)(h:∀m Cs,tY κ Y a₀ Et lo Cv m Cs->Q (ae m) Cs):mJ (bq prog w) A E s (yd lo n Cv) Q st:=by
 unfold yd;have hsz:lo+n<=(Hv st).size:=by rw[hB.size];exact zur hn E5
 refine Ho (zbu ?_);have CB:SB κ a₀ (setArr st (f7 (Hv st) lo (lo+n) ((lo+n-lo)/2))):=hB.setArr (mA _ _ _ _);refine Ho (zsy H hn h1 E5 CB ?_ λm DF DK Mq _=>Hp (h m _ ⟨CB,zp2 h1 DF,DK,Mq,ho.trans ((zaM hsz).wide (ar _) (zp6 E5)),hp⟩));intro i j hi CJ hj;show Rk Y (f7 (Hv st) lo (lo+n) ((lo+n-lo)/2)) i<=Rk Y (f7 (Hv st) lo (lo+n) ((lo+n-lo)/2)) j;rw[zcJ hsz,zcJ hsz,if_pos (zDX hi CJ hj),if_pos (zDZ hi CJ hj)];exact hs _ _ (zCX hj) (zEk CJ) (zCr h1 hi)
theorem zru(H:qL prog w A s κ Y a₀){st Et:aQ}{lo n Cv:Nat}{Q:DescSt->aQ->Prop}(hn:lo+Cv<=a₀.size)(h1:1<=n)(E5:n<=Cv)(hB:SB κ a₀ st)(hs:uU Y (Hv st) lo (lo+n))
  (ho:tq (Hv Et) (Hv st) lo (lo+Cv))(hp:Hr st=Hr Et)
  (h:∀m DX Cs,SB κ a₀ Cs->n<=m->m<=Cv->uU Y (Hv Cs) lo (lo+m)->DX+1<=m->(∀i,lo+m-(DX+1)<=i->i<lo+m->Rk Y (Hv Cs) i=Rk Y (Hv Cs) (lo+m-1))->
   tq (Hv Et) (Hv Cs) lo (lo+Cv)->Hr Cs=Hr Et->Q (af,m,DX) Cs):mJ (bq prog w) A E s (yu lo n Cv) Q st:=by
 unfold yu;refine Hs (I:=λx c Cs=>∃DX,c=(af,x,DX)/\SB κ a₀ Cs/\uU Y (Hv Cs) lo (lo+x)/\DX+1<=x/\
   (∀i,lo+x-(DX+1)<=i->i<lo+x->Rk Y (Hv Cs) i=Rk Y (Hv Cs) (lo+x-1))/\tq (Hv Et) (Hv Cs) lo (lo+Cv)/\Hr Cs=Hr Et) ?step ?fin
  (zaD 0 rfl hB hs (by exact zd 0x4a28002406 rfl h1) (λi h1 h2=>by congr 1;exact zc 0x91069500841a24140180945041a5406 rfl h1 h2) ho hp)
 case fin=>
  intro c Cs DN;refine zd4 DN λDX FD CB Cz hq he CM CN=>?_;subst FD;rw[show fF n Cv=Cv by exact zxG E5] at Cz hq he ⊢;exact h Cv DX Cs CB E5 (ar _) Cz hq he CM CN
 case step=>
  intro x c Cs IJ Ew DZ;refine zd4 DZ λDX Dn CB Cz hq he CM CN=>?_;subst Dn;dsimp only;have hsz:lo+x<=(Hv Cs).size:=by rw[CB.size];exact zg 0x2082801a4340184305006 rfl hn Ew
  refine Ho (zeO H CB (zp7 hn Ew) (zuq hn Ew) ?_)
  by_cases hl:Rk Y (Hv Cs) (lo+x)<Rk Y (Hv Cs) (lo+x-1)
  .simp only[hl,decide_true,if_true]
   by_cases hneq:DX>0
   .rw[if_pos hneq];refine Ho (zbu (Hp (zaD 0 rfl (CB.setArr (mA _ _ _ _)) ?_ zxh (λi h1 h2=>by congr 1;exact zc 0x2522a069500922a0689050060251448a81a5406 rfl h1 h2) (CM.trans ((zaM hsz).wide (zxT hq) (zCM Ew))) CN)));have e:=zax (Y:=Y) (i:=lo+x-(DX+1)) hsz he;refine uU.snoc (λi j hi CJ hj=>?_) (zp2 h1 IJ) ?_
    .show Rk Y (f7 _ _ _ _) j<=Rk Y (f7 _ _ _ _) i;rw[e,e];exact Cz i j hi CJ hj
    .show Rk Y (f7 _ _ _ _) _<=Rk Y (f7 _ _ _ _) _;rw[e,e];exact zgV hl
   .rw[if_neg hneq];exact Hp (zaD 0 rfl CB (Cz.snoc (zp2 h1 IJ) (zgV hl)) zxh (λi h1 h2=>by congr 1;exact zc 0x2522a069500922a0689050060251448a81a5406 rfl h1 h2) CM CN)
  .simp only[hl,decide_false,aT,if_false];refine Ho (zeO H CB (zuq hn Ew) (zp7 hn Ew) ?_)
   by_cases hg:Rk Y (Hv Cs) (lo+x-1)<Rk Y (Hv Cs) (lo+x)
   .simp only[hg,decide_true,if_true];exact Hp (h x DX Cs CB IJ (zgV Ew) Cz hq he CM CN)
   .simp only[hg,decide_false,aT,if_false];have hx:Rk Y (Hv Cs) (lo+x)=Rk Y (Hv Cs) (lo+x-1):=zBJ hl hg;refine Hp (zaD (DX+1) rfl CB (Cz.snoc (zp2 h1 IJ) (zxN hg)) (zAZ hq) (λi h1 h2=>?_) CM CN);rw[show lo+(x+1)-1=lo+x by exact zBQ]
    by_cases hix:i=lo+x
    .rw[hix]
    .rw[hx];exact he i (zDo h1) (zCv h2 hix)
theorem zk5(H:qL prog w A s κ Y a₀){st Et:aQ}{lo n Cv:Nat}{Q:Option Nat->aQ->Prop}(hn:lo+Cv<=a₀.size)(E5:n+1<=Cv)(hB:SB κ a₀ st)(hs:uU Y (Hv st) lo (lo+(n+1)))
  (ho:tq (Hv Et) (Hv st) lo (lo+Cv))(hp:Hr st=Hr Et)(h:∀m Cs,tY κ Y a₀ Et lo Cv m Cs->Q (ae m) Cs):mJ (bq prog w) A E s (xN lo n Cv) Q st:=by
 unfold xN;refine Ho (lj (He ⟨rfl,?_⟩));refine Ho (zru H hn zAC E5 hB hs ho hp λm DX Cs CB DF DK Cz hq he CM CN=>?_);dsimp only;have hsz:lo+m<=(Hv Cs).size:=by rw[CB.size];exact zur hn DK
 by_cases hneq:DX>0
 .rw[if_pos hneq];have e:=zax (Y:=Y) (i:=lo+m-(DX+1)) hsz he;refine Ho (zbu (zpw H hn (zxu hq) DK (CB.setArr (mA _ _ _ _)) ?_ (CM.trans ((zaM hsz).wide (zxT hq) (zp6 DK))) CN h));intro i j hi CJ hj;show Rk Y (f7 _ _ _ _) j<=Rk Y (f7 _ _ _ _) i;rw[e,e];exact Cz i j hi CJ hj
 .rw[if_neg hneq];exact zpw H hn (zxu hq) DK CB Cz CM CN h
theorem zjM(H:qL prog w A s κ Y a₀){st:aQ}{lo Cv:Nat}{Q:Option Nat->aQ->Prop}(hn:lo+Cv<=a₀.size)(h1:1<=Cv)(hB:SB κ a₀ st)
  (h:∀m Cs,tY κ Y a₀ st lo Cv m Cs->Q (ae m) Cs):mJ (bq prog w) A E s (rP lo Cv) Q st:=by
 rw[zg9];refine Ho (zsy H hn (ar 1) h1 hB (λi j hi CJ hj=>by rw[show i=j by exact zx6 hi CJ hj];exact ar _) λn ET DL EL Pv=>?_);dsimp only
 by_cases E5:n=Cv
 .rw[if_pos (by simpa using E5)];exact Hp (h n st ⟨hB,ET,DL,EL,tq.refl _ _ _,rfl⟩)
 .rw[if_neg (by simpa using E5)]
  by_cases hgt:n>1
  .rw[if_pos hgt];refine Ho (zeO H hB (zCj hn h1) (zDB hn DL E5) ?_)
   by_cases hr:Rk Y (Hv st) lo<Rk Y (Hv st) (lo+n-1)
   .simp only[hr,decide_true,if_true];exact Hp (h n st ⟨hB,ET,DL,EL,tq.refl _ _ _,rfl⟩)
   .simp only[hr,decide_false,aT,if_false];have hsz:lo+n<=(Hv st).size:=by rw[hB.size];exact zur hn DL
    have D9:∀k,lo<=k->k<lo+n->Rk Y (Hv st) k=Rk Y (Hv st) (lo+n-1):=by
     intro k Dg EB;have a1:=EL lo k zxk Dg EB;have a2:=EL k (lo+n-1) Dg (zCw EB) (zub ET);exact zc 0x402080060080638522a00c6 rfl hr a1 a2
    have e:=zax (Y:=Y) (i:=lo) hsz D9;refine Ho (zbu (zk5 H hn (zBq DL E5) (hB.setArr (mA _ _ _ _)) ?_ ((zaM hsz).wide (ar _) (zp6 DL)) rfl h));refine uU.snoc (λi j hi CJ hj=>?_) (zt0 ET) ?_
    .show Rk Y (f7 _ _ _ _) j<=Rk Y (f7 _ _ _ _) i;rw[e,e,D9 i (zke hi) (zyg CJ hj),D9 j (zCH hi CJ) (zxW hj)];exact ar _
    .show Rk Y (f7 _ _ _ _) _<=Rk Y (f7 _ _ _ _) _;rw[e,e];exact zg 0x40038c423182905003108a6 rfl Pv E5
  .rw[if_neg hgt];have OE:n=1:=zzM ET hgt;subst OE;refine zk5 H hn (by exact zd 0x129a00e0488c602406 rfl h1 E5) hB (uU.snoc (λi j hi CJ hj=>by rw[show i=j by exact zx6 hi CJ hj];exact ar _) (ar _) (by exact zc 0x400389223182905002488a6 rfl Pv E5)) (tq.refl _ _ _) rfl h
theorem zzq(h:l<r):l<=(l+r)/2/\(l+r)/2<r:=⟨(m9 Nat.two_pos).mpr (mB l▸cu (cX h) l),Nat.div_lt_of_lt_mul (Nat.two_mul r▸mD h r)⟩
theorem zgA(H:qL prog w A s κ Y a₀){st:aQ}{lo n ok:Nat}{Q:Bool->aQ->Prop}(hn:lo+n<=a₀.size)(ET:1<=n)(GH:ok<=n)(hB:SB κ a₀ st)(hs:sQ Y (Hv st) lo (lo+ok))
  (h:∀Cs,tY κ Y a₀ st lo n n Cs->Q ag Cs):mJ (bq prog w) A E s (binarySort' lo n ok) Q st:=by
 rw[binarySort'_eq];refine Ho (Hq (Hs (I:=λk c Cs=>c=(af,())/\SB κ a₀ Cs/\sQ Y (Hv Cs) lo (lo+fk k n)/\tq (Hv st) (Hv Cs) lo (lo+n)/\Hr Cs=Hr st)
  (Q:=λc Cs=>c=(af,())/\tY κ Y a₀ st lo n n Cs) ?step ?fin ?init) ?post)
 case post=>
  rintro c Cs ⟨rfl,hR⟩;exact Hp (h Cs hR)
 case init=>
  refine ju rfl hB (λi j hi CJ hj=>?_) (tq.refl _ _ _) rfl
  by_cases h1:ok=0
  .rw[show i=j by exact zEJ hi CJ hj h1];exact ar _
  .exact hs i j hi CJ (zDM hj h1)
 case fin=>
  intro c Cs Ez;refine qq Ez λhc CB Cz CM CN=>?_;rw[show fk (fF (fF ok 1) n) n=n by exact zBU] at Cz;exact⟨hc,CB,ET,ar _,Cz,CM,CN⟩
 case step=>
  intro k c Cs hak KJ Fn;refine qq Fn λJM CB Cz CM CN=>?_;subst JM;rw[show fk k n=k by exact zxA KJ] at Cz;have hk:lo+k<a₀.size:=zp7 hn KJ;refine Ho (Hq (Hs (I:=λx c Cw=>Cw=Cs/\∃l r,c=(af,l,r)/\l<=r/\r<=k/\r-l<=k-x/\
    (∀i,i<l->Rk Y (Hv Cs) (lo+i)<=Rk Y (Hv Cs) (lo+k))/\(∀i,r<=i->i<k->Rk Y (Hv Cs) (lo+k)<Rk Y (Hv Cs) (lo+i)))
   (Q:=λc Cw=>Cw=Cs/\∃l r,c=(af,l,r)/\l<=k/\
    (∀i,i<l->Rk Y (Hv Cs) (lo+i)<=Rk Y (Hv Cs) (lo+k))/\(∀i,l<=i->i<k->Rk Y (Hv Cs) (lo+k)<Rk Y (Hv Cs) (lo+i))) ?istep ?ifin ?iinit) ?ipost)
  case iinit=>exact qi rfl 0 k rfl zxi zxk zAB (λi hi=>zCY hi) (λi h1 h2=>zEe h1 h2)
  case ifin=>
   intro c Cw Fy;refine kY Fy λLr l r KH IK Ia hm DV FZ=>?_;subst Lr;subst KH;have:l=r:=zx1 IK hm;subst this;exact zcS rfl l l rfl Ia DV FZ
  case istep=>
   intro x c Cw _ hxk LP;refine kY LP λLG l r FP IK Ia hm DV FZ=>?_;subst LG;subst FP;dsimp only
   by_cases CR:l>=r
   .rw[if_pos CR];have:l=r:=zuf IK CR;subst this;exact Hp (zcS rfl l l rfl Ia DV FZ)
   .rw[if_neg CR];have GB:=zzq (lk CR);generalize (l+r)/2=md at GB ⊢;have DF:=GB.1;have DK:=GB.2;clear GB;refine Ho (zeO H CB hk (zFm hn KJ Ia DK) ?_)
    by_cases hless:Rk Y (Hv Cw) (lo+k)<Rk Y (Hv Cw) (lo+md)
    .simp only[hless,decide_true,if_true];refine Hp (qi rfl l md rfl (zke DF) (zyv Ia DK) (zyx hm DK) DV (λi h1 h2=>?_));exact aS hless (Cz _ _ zkf (zp6 h1) (zum h2))
    .simp only[hless,decide_false,aT,if_false];refine Hp (qi rfl (md+1) r rfl (zkd DK) (zke Ia) (zyw hm DF) (λi h1=>?_) FZ);exact ap (Cz (lo+i) (lo+md) (by exact zkf) (by exact zc 0x8140828048a890d006 rfl h1) (by exact zg 0x81448414a00690d00610c06 rfl Ia DK)) (Nat.not_lt.mp hless)
  case ipost=>
   intro c Cw Rw;refine zlt Rw λLw l r K6 E3 DV FZ=>?_;subst Lw;subst K6;show mJ _ _ _ _ (do moveDown' (lo+k) (lo+l);b9 (ce (af,()))) _ _;rw[moveDown'_eq];have E8:lo+k<(Hv Cw).size:=by rw[CB.size];exact hk
   have hd:lo+k-(lo+l)<=lo+k:=zDg;refine Ho (gu (Hp (ju rfl (CB.setArr (bubble_perm _ _ _)) ?_ (CM.trans ((zjA E8 hd).wide zDi (zCL KJ))) CN)));rw[show fk (k+1) n=k+1 by exact zBb KJ];intro i j hi CJ hj;show Rk Y (bubble (Hv Cw) (lo+k) (lo+k-(lo+l))) i<=Rk Y (bubble (Hv Cw) (lo+k) (lo+k-(lo+l))) j;rw[zff E8 hd,zff E8 hd,show lo+k-(lo+k-(lo+l))=lo+l by exact zC8 E3];have NY:∀i,lo<=i->i<lo+l->Rk Y (Hv Cw) i<=Rk Y (Hv Cw) (lo+k):=λi h1 h2=>by have:=DV (i-lo) (by exact zc 0x92105680106890500600406 rfl h1 h2);rwa [show lo+(i-lo)=i by exact zug h1] at this
   have Op:∀i,lo+l<=i->i<lo+k->Rk Y (Hv Cw) (lo+k)<Rk Y (Hv Cw) i:=λi h1 h2=>by have:=FZ (i-lo) (by exact zc 0x8350002015006 rfl h1) (by exact zg 0x248415a0041a2414018030d006 rfl h1 h2);rwa [show lo+(i-lo)=i by exact zCk h1] at this
   repeat' split
   all_goals first
    | (exfalso;(first|exact zy 0x738c540802920a94010c639054088c620a8011923a0a890d00608006 rfl CJ hj (by assumption) (by assumption) (by assumption)|exact zy 0x718a8111882a000048c54a008608006 rfl CJ (by assumption) (by assumption)|exact zy 0x738c540802920a94010c618a80001241528021923a0a890d00608006 rfl CJ hj (by assumption) (by assumption)))
    | exact ar _
    | exact NY _ (zke hi) (zD1 CJ (by assumption) (by assumption))
    | exact cX (Op _ (zEj CJ (by assumption) (by assumption)) (zEL CJ hj (by assumption) (by assumption)))
    | exact Cz _ _ (by (first|exact zg 0x243500060a040148814a0086 rfl (by assumption)|exact zke hi)) (by (first|exact zb 0x2435482a008006 rfl CJ|exact zy 0x243500082a040148c54a0086390540000918a94010c608006 rfl CJ (by assumption) (by assumption)|exact zke CJ)) (by (first|exact zy 0x20d1290568010684011230d28021922a068905006 rfl hj (by assumption)|exact zg 0x8344a415a0041a000048c34a0086 rfl (by assumption)|exact zg 0x20d120a00e20d00002461a5004318e30d00231922a06890500610c06 rfl E3 hj (by assumption) (by assumption)))
end
theorem j8(SA:sQ Y a 0 a.size):a.toList.Pairwise λx y=>Y x<=Y y:=by
 rw[List.pairwise_iff_getElem];intro i j hi hj CJ;have h1:i<a.size:=by simpa using hi
 have h2:j<a.size:=by simpa using hj
 have:=SA i j (aE _) (zgV CJ) h2;have e1:Rk Y a i=Y a.toList[i]:=by unfold Rk;rw[getElem?_pos a i h1];simp
 have e2:Rk Y a j=Y a.toList[j]:=by unfold Rk;rw[getElem?_pos a j h2];simp
 rw[e1,e2] at this;exact this
noncomputable def wx:Bool->Hw->Array Hw->Nat->Nat->Nat->StateT aQ lu (Option Nat):=sortPriv% PySem.Builtin.gallop
noncomputable def Au(left:Bool)(key:Hw)(arr:Array Hw)(base i:Nat):StateT aQ lu (Option Bool):=do
 let x <-fe arr (base+i)
 if left then lt' x key else return (<-lt' key x).map (!·)
section
variable{prog:Hk}{w:cV}{A:bn}{E:aD->ay->Prop}{s:ay}{a₀:Array Hw}{κ:d4}{Y:Hw->Nat}
noncomputable def t9(left:Bool)(Y:Hw->Nat)(key:Hw)(arr:Array Hw)(base i:Nat):Bool:=if left then decide (Rk Y arr (base+i)<Y key) else !decide (Y key<Rk Y arr (base+i))
theorem zcF(H:qL prog w A s κ Y a₀){st:aQ}(hB:SB κ a₀ st)(hk:key∈a₀.toList)(ha:∀p∈arr.toList,p∈a₀.toList)(hi:base+i<arr.size)
  (h:Q (ae (t9 left Y key arr base i)) st):mJ (bq prog w) A E s (Au left key arr base i) Q st:=by
 have e:arr[base+i]? = ae arr[base+i]:=getElem?_pos arr (base+i) hi;have hm:arr[base+i]∈a₀.toList:=ha _ (by simp);have er:Rk Y arr (base+i)=Y arr[base+i]:=by unfold Rk;rw[e]
 unfold t9 at h;rw[er] at h;unfold Au;refine Ho (jj e ?_);cases left with
 | true=>simp only[if_true] at h ⊢;exact zpx H hB hm hk h
 | false=>
  simp only[aT,if_false] at h ⊢;exact Ho (zpx H hB hk hm (Hp h))
theorem zzr(h:l<r):l<=l+(r-l)/2/\l+(r-l)/2<r:=⟨bN _ _,Nat.add_lt_of_lt_sub' (Nat.div_lt_self (Nat.sub_pos_of_lt h) Nat.one_lt_two)⟩
theorem zau(H:qL prog w A s κ Y a₀){st:aQ}(hB:SB κ a₀ st)(hk:key∈a₀.toList)(ha:∀p∈arr.toList,p∈a₀.toList)(hn:base+n<=arr.size)(hh:hint<n)(hs:sQ Y arr base (base+n))
  (h:∀p,p<=n->(∀i,i<p->t9 left Y key arr base i=ag)->(∀i,p<=i->i<n->t9 left Y key arr base i=ai)->Q (ae p) st):mJ (bq prog w) A E s (wx left key arr base n hint) Q st:=by
 have mono:∀i j,i<=j->j<n->t9 left Y key arr base j=ag->t9 left Y key arr base i=ag:=λi j CJ hj=>by
  have:=hs (base+i) (base+j) zkf (zp6 CJ) (zum hj);unfold t9;cases left
  .simp only[aT,if_false,fS,decide_eq_false_iff_not];exact zc 0x1c490500638520a00c608806 rfl this
  .simp only[if_true,decide_eq_true_eq];exact zc 0x522a00290500600806 rfl this
 have Fe:∀i j,i<=j->j<n->t9 left Y key arr base i=ai->t9 left Y key arr base j=ai:=λi j CJ hj hi=>by
  cases hb:t9 left Y key arr base j with
  | false=>rfl
  | true=>rw[mono i j CJ hj hb] at hi;exact nbo hi
 have bin:∀(lo hi:Nat),lo<=hi->hi<=n->(∀i,i<lo->t9 left Y key arr base i=ag)->(∀i,hi<=i->i<n->t9 left Y key arr base i=ai)->∀{Q':(Option (Option Nat)×Nat×Nat)->aQ->Prop},
   (∀p q,p<=n->(∀i,i<p->t9 left Y key arr base i=ag)->(∀i,p<=i->i<n->t9 left Y key arr base i=ai)->Q' (af,q,p) st)->
   mJ (bq prog w) A E s (iA [0:n] ((af,lo,hi):Option (Option Nat)×Nat×Nat) λ_ r=>do
    if r.2.1>=r.2.2 then b9 (dQ (af,r.2.1,r.2.2)) else do
     let x <-Au left key arr base (r.2.1+(r.2.2-r.2.1)/2)
     match x with
     | some more=>if more=ag then b9 (ce (af,r.2.1+(r.2.2-r.2.1)/2+1,r.2.2)) else b9 (ce (af,r.2.1,r.2.1+(r.2.2-r.2.1)/2))
     | _=>b9 (dQ (ae af,r.2.1,r.2.2))) Q' st:=by
  intro lo hi Re Pi DV FZ Q' hQ;refine Hs (I:=λx c Cs=>Cs=st/\∃l r,c=(af,l,r)/\l<=r/\r<=n/\r-l<=n-x/\(∀i,i<l->t9 left Y key arr base i=ag)/\(∀i,r<=i->i<n->t9 left Y key arr base i=ai)) ?step ?fin (qi rfl lo hi rfl Re Pi (zCI Pi) DV FZ)
  case fin=>
   intro c Cs Da;refine kY Da λFm l r I9 h1 h2 h3 h4 h5=>?_;subst Fm;subst I9;have:l=r:=zx1 h1 h3;subst this;exact hQ l l h2 h4 h5
  case step=>
   intro x c Cs _ hx CY;refine kY CY λFc l r Ie h1 h2 h3 h4 h5=>?_;subst Fc;subst Ie;dsimp only
   by_cases CR:l>=r
   .rw[if_pos CR];have:l=r:=zuf h1 CR;subst this;exact Hp (hQ l l h2 h4 h5)
   .rw[if_neg CR];have GB:=zzr (lk CR);generalize l+(r-l)/2=md at GB ⊢;have DF:=GB.1;have DK:=GB.2;clear GB;refine Ho (zcF H hB hk ha (zFl hn h2 DK) ?_);dsimp only;cases hb:t9 left Y key arr base md with
    | true=>
     exact Hp (qi rfl _ r rfl (zkd DK) h2 (zyw h3 DF) (λi hi=>mono i _ (zud hi) (zFj h2 DK) hb) h5)
    | false=>
     exact Hp (qi rfl l _ rfl (zke DF) (zyv h2 DK) (zyx h3 DK) h4 (λi h6 h7=>Fe _ i h6 h7 hb))
 refine Ho (zcF H hB hk ha (zp7 hn hh) ?_);dsimp only;cases hb:t9 left Y key arr base hint with
 | true=>
  refine Ho (Hq (Hs (I:=λx c Cs=>Cs=st/\∃a b,c=(af,a,b)/\a<b/\x+1<=b/\hint+a<n/\t9 left Y key arr base (hint+a)=ag)
   (Q:=λc Cs=>Cs=st/\∃a b,c=(af,a,b)/\a<b/\hint+a<n/\t9 left Y key arr base (hint+a)=ag/\(b>=n-hint\/t9 left Y key arr base (hint+b)=ai)) ?step ?fin (ji rfl 0 1 rfl y4 y1 (zBc hh) (by simpa using hb))) ?post)
  case fin=>
   intro c Cs DN;refine qz DN λNw a b HY h1 h2 h3 h4=>?_;subst Nw;subst HY;exact ji rfl a b rfl h1 h3 h4 (.inl (zBY h2))
  case step=>
   intro x c Cs _ hx DZ;refine qz DZ λHP a b IV h1 h2 h3 h4=>?_;subst HP;subst IV;dsimp only
   by_cases CR:b>=n-hint
   .rw[if_pos CR];exact Hp (ji rfl a b rfl h1 h3 h4 (.inl CR))
   .rw[if_neg CR];refine Ho (zcF H hB hk ha (zEz hn CR) ?_);dsimp only;cases Dv:t9 left Y key arr base (hint+b) with|true=>exact Hp (ji rfl b _ rfl zxj (zxr h2) (zDa CR) Dv)|false=>exact Hp (ji rfl a b rfl h1 h3 h4 (.inr Dv))
  case post=>
   intro c Cs Ez;refine qz Ez λJb a b Om h1 h3 h4 h5=>?_;subst Jb;subst Om;dsimp only;refine Ho (bin _ _ (zD2 h1 h3) (zCx hh) (λi hi=>mono i (hint+a) (zCu hi) h3 h4) (λi h6 h7=>?_) λp q hp Od OB=>Hp (h p hp Od OB))
   rcases h5 with h5|h5
   .exact absurd h7 (zyA h5 h6)
   .rcases o7 b (n-hint) with h8|h8
    .exact Fe (hint+b) i (zDv h6 h8) h7 h5
    .exact absurd h7 (zyA h8 h6)
 | false=>
  refine Ho (Hq (Hs (I:=λx c Cs=>Cs=st/\∃a b,c=(af,a,b)/\a<b/\x+1<=b/\a<=hint/\t9 left Y key arr base (hint-a)=ai)
   (Q:=λc Cs=>Cs=st/\∃a b,c=(af,a,b)/\a<b/\a<=hint/\t9 left Y key arr base (hint-a)=ai/\(b>=hint+1\/t9 left Y key arr base (hint-b)=ag)) ?step2 ?fin2 (ji rfl 0 1 rfl y4 y1 zxi (by simpa using hb))) ?post2)
  case fin2=>
   intro c Cs Fn;refine qz Fn λJ6 a b Iz h1 h2 h3 h4=>?_;subst J6;subst Iz;exact ji rfl a b rfl h1 h3 h4 (.inl (zCK hh h2))
  case step2=>
   intro x c Cs _ hx Fy;refine qz Fy λNN a b Ja h1 h2 h3 h4=>?_;subst NN;subst Ja;dsimp only
   by_cases CR:b>=hint+1
   .rw[if_pos CR];exact Hp (ji rfl a b rfl h1 h3 h4 (.inl CR))
   .rw[if_neg CR];refine Ho (zcF H hB hk ha (zEy hn hh) ?_);dsimp only;cases Dv:t9 left Y key arr base (hint-b) with|true=>exact Hp (ji rfl a b rfl h1 h3 h4 (.inr Dv))|false=>exact Hp (ji rfl b _ rfl zxj (zxr h2) (zBL CR) Dv)
  case post2=>
   intro c Cs LP;refine qz LP λIW a b MK h1 h3 h4 h5=>?_;subst IW;subst MK;dsimp only;refine Ho (bin _ _ (zCZ h1) (zCz hh) (λi hi=>?_) (λi h6 h7=>Fe (hint-a) i h6 h7 h4) λp q hp Od OB=>Hp (h p hp Od OB))
   rcases h5 with h5|h5
   .exact absurd hi (zyB h5)
   .rcases o7 b (hint+1) with h8|h8
    .exact mono i (hint-b) (zCt hi) (zCy hh) h5
    .exact absurd hi (zyB h8)
end
noncomputable def xm:Nat->StateT aQ lu Unit:=sortPriv% PySem.Builtin.setMinGallop
noncomputable abbrev As(st:aQ)(g:Nat):aQ:=lL (kindOf st) (Hv st) (Hr st) g (dY st)
theorem zpB(g):xm g=modify λs=>As s g:=rfl
noncomputable def AG:Array Hw->Array Hw->StateT aQ lu (Array Hw):=sortPriv% PySem.Builtin.mergeLo
noncomputable def Ao:Array Hw->Array Hw->StateT aQ lu (Array Hw):=sortPriv% PySem.Builtin.mergeHi
structure MI(Y:Hw->Nat)(a b out:Array Hw)(ia ib:Nat):Prop where
 la:ia<=a.size
 lb:ib<=b.size
 perm:(out.toList++a.toList.drop ia++b.toList.drop ib).Perm (a.toList++b.toList)
 srt:out.toList.Pairwise λx y=>Y x<=Y y
 oa:∀x∈out.toList,∀y∈a.toList.drop ia,Y x<=Y y
 ob:∀x∈out.toList,∀y∈b.toList.drop ib,Y x<=Y y
structure MR(Y:Hw->Nat)(a b r:Array Hw):Prop where
 perm:r.toList.Perm (a.toList++b.toList)
 srt:r.toList.Pairwise λx y=>Y x<=Y y
theorem qk(h:y∈a.toList.drop i):∃j,i<=j/\j<a.size/\a[j]? = ae y/\Rk Y a j=Y y:=by
 obtain⟨k,hk⟩:=List.mem_iff_getElem?.mp h;rw[ik] at hk;have CO:a[i+k]? = ae y:=by rw[<-bg];exact hk
 have Cu:i+k<a.size:=by
  have:=(List.getElem?_eq_some_iff.mp hk).1
  simpa using this
 exact qJ (i+k) zkf Cu CO (by unfold Rk;rw[CO])
theorem kn(h:y∈a.toList.take i):∃j,j<i/\j<a.size/\a[j]? = ae y/\Rk Y a j=Y y:=by
 obtain⟨k,hk⟩:=List.mem_iff_getElem?.mp h;rw[nv] at hk;split at hk
 .have CO:a[k]? = ae y:=by rw[<-bg];exact hk
  have Cu:k<a.size:=by
   have:=(List.getElem?_eq_some_iff.mp hk).1
   simpa using this
  exact qJ k (zue (by assumption)) Cu CO (by unfold Rk;rw[CO])
 .exact nos hk
theorem zf1{a:Array Hw}{i:Nat}{x:Hw}(h:a[i]? = ae x):a.toList.drop i=x::a.toList.drop (i+1):=by
 have h':a.toList[i]? = ae x:=by rw[bg];exact h
 obtain⟨hi,e⟩:=List.getElem?_eq_some_iff.mp h';rw[cn hi,e]
theorem zlb{a:Array Hw}{i:Nat}{x:Hw}(h:a[i]? = ae x):a.toList.take (i+1)=a.toList.take i++[x]:=by
 have h':a.toList[i]? = ae x:=by rw[bg];exact h
 rw[eG,h'];rfl
section
variable{Y:Hw->Nat}{a b out:Array Hw}{ia ib:Nat}
theorem MI.pushB(M:MI Y a b out ia ib)(SA:sQ Y a 0 a.size)(SBb:sQ Y b 0 b.size){x:Hw}(hx:b[ib]? = ae x)(So:ib<b.size)(CF:ia<a.size->Y x<=Rk Y a ia):MI Y a b (out.push x) ia (ib+1):=by
 have ex:Rk Y b ib=Y x:=by unfold Rk;rw[hx]
 have hd:=zf1 hx;refine⟨M.la,zkd So,?_,?_,?_,?_⟩
 .refine dE ?_ M.perm;rw[hd,aV];simp only[aR,ma];exact dC _ ((ln (l₁:=List.drop ia a.toList)).symm)
 .rw[aV,bw];exact zu M.srt (d8 _ _) (λy hy z hz=>by rw[List.mem_singleton.mp hz];exact M.ob y hy x (by rw[hd];exact aj))
 .intro y hy z hz;rw[aV,bM,bK] at hy
  rcases hy with hy|rfl
  .exact M.oa y hy z hz
  .refine zM (qk (Y:=Y) hz) λj h1 h2 _ h3=>?_;have:=SA ia j (aE _) h1 h2;have:=CF (zr3 h1 h2);exact zg 0x4001800610c0608846 rfl h3 (by assumption) this
 .intro y hy z hz;rw[aV,bM,bK] at hy
  rcases hy with hy|rfl
  .exact M.ob y hy z (by rw[hd];exact al _ hz)
  .refine zM (qk (Y:=Y) hz) λj h1 h2 _ h3=>?_;have:=SBb ib j (aE _) (zp1 h1) h2;exact zr5 ex h3 this
theorem MI.pushA(M:MI Y a b out ia ib)(SA:sQ Y a 0 a.size)(SBb:sQ Y b 0 b.size){x:Hw}(hx:a[ia]? = ae x)(PY:ia<a.size)(CF:ib<b.size->Y x<=Rk Y b ib):MI Y a b (out.push x) (ia+1) ib:=by
 have ex:Rk Y a ia=Y x:=by unfold Rk;rw[hx]
 have hd:=zf1 hx;refine⟨zkd PY,M.lb,?_,?_,?_,?_⟩
 .refine dE ?_ M.perm;rw[hd,aV];simp only[aR,oQ];exact il _
 .rw[aV,bw];exact zu M.srt (d8 _ _) (λy hy z hz=>by rw[List.mem_singleton.mp hz];exact M.oa y hy x (by rw[hd];exact aj))
 .intro y hy z hz;rw[aV,bM,bK] at hy
  rcases hy with hy|rfl
  .exact M.oa y hy z (by rw[hd];exact al _ hz)
  .refine zM (qk (Y:=Y) hz) λj h1 h2 _ h3=>?_;have:=SA ia j (aE _) (zp1 h1) h2;exact zr5 ex h3 this
 .intro y hy z hz;rw[aV,bM,bK] at hy
  rcases hy with hy|rfl
  .exact M.ob y hy z hz
  .refine zM (qk (Y:=Y) hz) λj h1 h2 _ h3=>?_;have:=SBb ib j (aE _) h1 h2;have:=CF (zr3 h1 h2);exact zg 0x4001800610c0608846 rfl h3 (by assumption) this
theorem zcg(h:i+k<a.size):a.extract i (i+(k+1))=(a.extract i (i+k)).push a[i+k]:=by
 apply ny;have e:a[i+k]? = ae a[i+k]:=getElem?_pos a (i+k) h;have e':a.toList[i+k]? = ae a[i+k]:=by rw[bg];exact e
 rw[aV,ca,ca];simp only[cq,fA];rw[eG,ik,e'];rfl
theorem zcf(a:Array Hw)(i):a.extract i i = #[]:=by
 apply ny;rw[ca];simp
theorem append_push(u v:Array Hw)(x):u++v.push x=(u++v).push x:=by rw[Array.append_push]
theorem MI.w5(SA:sQ Y a 0 a.size)(SBb:sQ Y b 0 b.size)(M:MI Y a b out ia ib)(k):ia+k<=a.size->(∀i,i<k->ib<b.size->Rk Y a (ia+i)<=Rk Y b ib)->MI Y a b (out++a.extract ia (ia+k)) (ia+k) ib:=by
 induction k with
 | zero=>intro _ _;rw[dW,zcf];simpa using M
 | succ k ih=>
  intro hk CF;have ih:=ih (zxR hk) λi hi=>CF i (zxB hi);have e:a[ia+k]? = ae a[ia+k]:=getElem?_pos a (ia+k) (zni hk);rw[zcg (zni hk),append_push];exact ih.pushA SA SBb e (zni hk) λh=>ap (bp (by unfold Rk;rw[e])) (CF k zp0 h)
theorem MI.w6(SA:sQ Y a 0 a.size)(SBb:sQ Y b 0 b.size)(M:MI Y a b out ia ib)(k):ib+k<=b.size->(∀i,i<k->ia<a.size->Rk Y b (ib+i)<=Rk Y a ia)->MI Y a b (out++b.extract ib (ib+k)) ia (ib+k):=by
 induction k with
 | zero=>intro _ _;rw[dW,zcf];simpa using M
 | succ k ih=>
  intro hk CF;have ih:=ih (zxR hk) λi hi=>CF i (zxB hi);have e:b[ib+k]? = ae b[ib+k]:=getElem?_pos b (ib+k) (zni hk);rw[zcg (zni hk),append_push];exact ih.pushB SA SBb e (zni hk) λh=>by have:=CF k zp0 h;unfold Rk at this;rw[e] at this;exact this
theorem kD(a:Array Hw)(i):(a.extract i a.size).toList=a.toList.drop i:=by
 rw[ca,cq];exact dj (by simp)
theorem MI.done(M:MI Y a b out ia ib)(SA:sQ Y a 0 a.size)(SBb:sQ Y b 0 b.size)(h:ia=a.size\/ib=b.size):MR Y a b (out++a.extract ia a.size++b.extract ib b.size):=by
 refine⟨by rw[bh,bh,kD,kD];exact M.perm,?_⟩;rw[bh,bh,kD,kD,bw,bw];refine zu (zu M.srt ((j8 SA).drop) (λx hx y hy=>M.oa x hx y hy)) ((j8 SBb).drop) (λx hx y hy=>?_)
 rcases List.mem_append.mp hx with hx|hx
 .exact M.ob x hx y hy
 .rcases h with h|h
  .rw[lM (by simp[h])] at hx;cases hx
  .rw[lM (by simp[h])] at hy;cases hy
theorem MI.lastA(M:MI Y a b out ia ib)(SA:sQ Y a 0 a.size)(SBb:sQ Y b 0 b.size)(h:ia+1=a.size)(hl:∀i,i<b.size->Rk Y b i<=Rk Y a (a.size-1)):MR Y a b (out++b.extract ib b.size++a.extract ia a.size):=by
 refine⟨?_,?_⟩
 .refine dE ?_ M.perm;simp only[bh,kD,aR];exact dC _ eB
 .rw[bh,bh,kD,kD,bw,bw];refine zu (zu M.srt ((j8 SBb).drop) (λx hx y hy=>M.ob x hx y hy)) ((j8 SA).drop) (λx hx y hy=>?_)
  rcases List.mem_append.mp hx with hx|hx
  .exact M.oa x hx y hy
  .refine zM (qk (Y:=Y) hx) λj h1 h2 _ h3=>zM (qk (Y:=Y) hy) λj' E2 Er _ Mb=>?_;have:=hl j h2;rw[show j'=a.size-1 by exact zCp h E2 Er] at Mb;exact zr5 h3 Mb this
end
structure Gl(st Cs:aQ):Prop where
 arr:Hv Cs=Hv st
 kind:kindOf Cs=kindOf st
 pend:Hr Cs=Hr st
 failed:dY Cs=dY st
theorem Gl.refl(st:aQ):Gl st st:=⟨rfl,rfl,rfl,rfl⟩
theorem Gl.trans{x y z:aQ}(h:Gl x y)(h':Gl y z):Gl x z:=⟨h'.arr.trans h.arr,h'.kind.trans h.kind,h'.pend.trans h.pend,h'.failed.trans h.failed⟩
theorem Gl.gal(st:aQ)(g):Gl st (As st g):=⟨rfl,rfl,rfl,rfl⟩
theorem SB.gl{κ:d4}{st Cs:aQ}(h:SB κ a₀ st)(g:Gl st Cs):SB κ a₀ Cs:=⟨by rw[g.arr];exact h.perm,by rw[g.kind];exact h.kind,by rw[g.failed];exact h.failed⟩
noncomputable abbrev yW:=Option (Array Hw)×Array Hw×Nat×Nat×Nat×Nat
noncomputable abbrev wa:=Option (Array Hw)×Array Hw×Nat×Nat×Nat×Nat×Nat
noncomputable abbrev yV:=Option (Array Hw)×Array Hw×Nat×Nat×Nat
noncomputable def t2(a b out:Array Hw)(ia ib mg ac bc:Nat):StateT aQ lu (ForInStep wa):=do
 let x <-fe a ia
 if (ia+1+1==a.size)=ag then b9 (.done (ae (out.push x++b.extract ib b.size++a.extract (ia+1) a.size),out.push x,ia+1,ib,mg,ac,bc))
 else if (decide (ac<7)&&decide (bc<7))=ag then b9 (.done (af,out.push x,ia+1,ib,mg,ac,bc)) else b9 (.yield (af,out.push x,ia+1,ib,mg,ac,bc))
noncomputable def t1(a b out:Array Hw)(ia ib mg ac bc:Nat):StateT aQ lu (ForInStep wa):=do
 let x <-fe b ib
 if (ib+1==b.size)=ag then b9 (.done (ae (out.push x++a.extract ia a.size++b.extract (ib+1) b.size),out.push x,ia,ib+1,mg,ac,bc))
 else do
  let y <-fe a ia
  let r <-wx ag y b (ib+1) (b.size-(ib+1)) 0
  match r with
  | some k=>
   if k>0 then
    if (ib+1+k==b.size)=ag then b9 (.done (ae (out.push x++b.extract (ib+1) (ib+1+k)++a.extract ia a.size++b.extract (ib+1+k) b.size),out.push x++b.extract (ib+1) (ib+1+k),ia,ib+1+k,mg,ac,k))
    else t2 a b (out.push x++b.extract (ib+1) (ib+1+k)) ia (ib+1+k) mg ac k
   else t2 a b (out.push x) ia (ib+1) mg ac k
  | _=>b9 (.done (ae (out.push x++a.extract ia a.size++b.extract (ib+1) b.size),out.push x,ia,ib+1,mg,ac,bc))
noncomputable def g2(a b out:Array Hw)(ia ib mg ac bc:Nat):StateT aQ lu (ForInStep wa):=do
 xm mg
 let x <-fe b ib
 let r <-wx ai x a ia (a.size-ia) 0
 match r with
 | some k=>
  if k>0 then
   if (ia+k+1==a.size)=ag then b9 (.done (ae (out++a.extract ia (ia+k)++b.extract ib b.size++a.extract (ia+k) a.size),out++a.extract ia (ia+k),ia+k,ib,mg,k,bc))
   else if (ia+k==a.size)=ag then b9 (.done (ae (out++a.extract ia (ia+k)++a.extract (ia+k) a.size++b.extract ib b.size),out++a.extract ia (ia+k),ia+k,ib,mg,k,bc))
   else t1 a b (out++a.extract ia (ia+k)) (ia+k) ib mg k bc
  else t1 a b out ia ib mg k bc
 | _=>b9 (.done (ae (out++a.extract ia a.size++b.extract ib b.size),out,ia,ib,mg,ac,bc))
noncomputable def b2(a b:Array Hw)(c:wa):StateT aQ lu (ForInStep wa):=
 if c.2.2.2.2.1>1 then g2 a b c.2.1 c.2.2.1 c.2.2.2.1 (c.2.2.2.2.1-1) c.2.2.2.2.2.1 c.2.2.2.2.2.2 else g2 a b c.2.1 c.2.2.1 c.2.2.2.1 c.2.2.2.2.1 c.2.2.2.2.2.1 c.2.2.2.2.2.2
noncomputable def b1(a b:Array Hw)(mg:Nat)(c:yW):StateT aQ lu (ForInStep yW):=do
 let x <-fe b c.2.2.2.1
 let y <-fe a c.2.2.1
 let r <-lt' x y
 match r with
 | some w=>
  if w=ag then do
   let x <-fe b c.2.2.2.1
   if (c.2.2.2.1+1==b.size)=ag then b9 (.done (ae (c.2.1.push x++a.extract c.2.2.1 a.size++b.extract (c.2.2.2.1+1) b.size),c.2.1.push x,c.2.2.1,c.2.2.2.1+1,0,c.2.2.2.2.2+1))
   else if c.2.2.2.2.2+1>=mg then b9 (.done (af,c.2.1.push x,c.2.2.1,c.2.2.2.1+1,0,c.2.2.2.2.2+1)) else b9 (.yield (af,c.2.1.push x,c.2.2.1,c.2.2.2.1+1,0,c.2.2.2.2.2+1))
  else do
   let x <-fe a c.2.2.1
   if (c.2.2.1+1+1==a.size)=ag then b9 (.done (ae (c.2.1.push x++b.extract c.2.2.2.1 b.size++a.extract (c.2.2.1+1) a.size),c.2.1.push x,c.2.2.1+1,c.2.2.2.1,c.2.2.2.2.1+1,0))
   else if c.2.2.2.2.1+1>=mg then b9 (.done (af,c.2.1.push x,c.2.2.1+1,c.2.2.2.1,c.2.2.2.2.1+1,0)) else b9 (.yield (af,c.2.1.push x,c.2.2.1+1,c.2.2.2.1,c.2.2.2.2.1+1,0))
 | _=>b9 (.done (ae (c.2.1++a.extract c.2.2.1 a.size++b.extract c.2.2.2.1 b.size),c.2.1,c.2.2.1,c.2.2.2.1,c.2.2.2.2.1,c.2.2.2.2.2))
noncomputable def b0(a b:Array Hw)(c:yV):StateT aQ lu (ForInStep yV):=do
 let r <-iA [0:a.size+b.size] ((af,c.2.1,c.2.2.1,c.2.2.2.1,0,0):yW) λ_ r=>b1 a b c.2.2.2.2 r
 match r.1 with
 | some v=>b9 (.done (ae v,r.2.1,r.2.2.1,r.2.2.2.1,c.2.2.2.2))
 | none=>do
  liftM (sq "list.sort.gallop")
  let q <-iA [0:a.size+b.size] ((af,r.2.1,r.2.2.1,r.2.2.2.1,c.2.2.2.2+1,r.2.2.2.2.1,r.2.2.2.2.2):wa) λ_ q=>b2 a b q
  match q.1 with
  | some v=>b9 (.done (ae v,q.2.1,q.2.2.1,q.2.2.2.1,q.2.2.2.2.1))
  | none=>do
   xm (q.2.2.2.2.1+1)
   b9 (.yield (af,q.2.1,q.2.2.1,q.2.2.2.1,q.2.2.2.2.1+1))
noncomputable def mLo(a b:Array Hw):StateT aQ lu (Array Hw):=do
 liftM (sq "list.sort.merge-lo")
 let x <-fe b 0
 if (1==b.size)=ag then b9 (#[x]++a.extract 0 a.size++b.extract 1 b.size)
 else if (0+1==a.size)=ag then b9 (#[x]++b.extract 1 b.size++a.extract 0 a.size)
 else do
  let g <-get
  let q <-iA [0:a.size+b.size] ((af,#[x],0,1,gallopOf g):yV) λ_ q=>b0 a b q
  match q.1 with
  | some v=>b9 v
  | none=>liftM (pf "internal:list.sort.merge-bound" : lu (Array Hw))
theorem ztr(a b):AG a b=mLo a b:=by kernel_rfl
section
variable{prog:Hk}{w:cV}{A:bn}{E:aD->ay->Prop}{s:ay}{a₀:Array Hw}{κ:d4}{Y:Hw->Nat}{a b:Array Hw}
theorem zgB{st:aQ}(h:Q () (As st g)):mJ (bq prog w) A E s (xm g) Q st:=by
 rw[zpB];exact gu h
structure MG(prog:Hk)(w:cV)(A:bn)(s:ay)(κ:d4)(Y:Hw->Nat)(a₀ a b:Array Hw):Prop where
 H:qL prog w A s κ Y a₀
 ha:∀p∈a.toList,p∈a₀.toList
 hb:∀p∈b.toList,p∈a₀.toList
 SA:sQ Y a 0 a.size
 SBb:sQ Y b 0 b.size
 first:∀i,i<a.size->Rk Y b 0<=Rk Y a i
 last:∀i,i<b.size->Rk Y b i<=Rk Y a (a.size-1)
theorem zim(h:sQ Y x 0 x.size)(i)(hi:i<=x.size):sQ Y x i (i+(x.size-i)):=λu v h1 h2 h3=>h u v (aE _) h2 (zC7 hi h3)
theorem at_some(h:i<x.size):∃p,x[i]? = ae p/\p∈x.toList/\Rk Y x i=Y p:=by
 have e:x[i]? = ae x[i]:=getElem?_pos x i h;exact zz (x[i]) e (by simp) (by unfold Rk;rw[e])
def ur(Y:Hw->Nat)(a b:Array Hw)(r0:Nat)(out:Array Hw)(ia ib:Nat):Prop:=MI Y a b out ia ib/\ia+1<a.size/\ib<b.size/\(a.size-ia)+(b.size-ib)<=r0
def Bw(Y:Hw->Nat)(a b:Array Hw)(r0:Nat)(c:wa):Prop:=(∃r,c.1=ae r/\MR Y a b r)\/(c.1=af/\ur Y a b r0 c.2.1 c.2.2.1 c.2.2.2.1)
def yZ(Y:Hw->Nat)(a b:Array Hw)(r0:Nat)(st:aQ)(r:ForInStep wa)(Cs:aQ):Prop:=Gl st Cs/\match r with|.done c=>Bw Y a b r0 c|.yield c=>c.1=af/\ur Y a b r0 c.2.1 c.2.2.1 c.2.2.2.1
theorem zvy(M:MG prog w A s κ Y a₀ a b){st CH:aQ}(g:Gl CH st)(I:ur Y a b r0 out ia ib)(CF:Rk Y a ia<=Rk Y b ib):mJ (bq prog w) A E s (t2 a b out ia ib mg ac bc) (yZ Y a b r0 CH) st:=by
 refine zl (at_some (Y:=Y) (x:=a) (i:=ia) (by have:=I.2.1;exact zgU this)) λx hx hm hr=>?_;have I1:=I.1.pushA M.SA M.SBb hx (by have:=I.2.1;exact zgU this) λ_=>zx7 CF hr;refine zI I λ_ h1 h2 h3=>Ho (jj hx ?_)
 by_cases he:ia+1+1=a.size
 .rw[if_pos (by simpa using he)];exact Hp ⟨g,.inl (zf _ rfl (I1.lastA M.SA M.SBb he M.last))⟩
 .rw[if_neg (by simpa using he)];have I2:ur Y a b r0 (out.push x) (ia+1) ib:=(zA I1 (zxq h1 he) h2 (zEt h3))
  split
  .exact Hp ⟨g,.inr ⟨rfl,I2⟩⟩
  .exact Hp (zu g rfl I2)
theorem zvx(M:MG prog w A s κ Y a₀ a b){st CH:aQ}(hB:SB κ a₀ st)(g:Gl CH st)(I:ur Y a b r0 out ia ib)(CF:Rk Y b ib<=Rk Y a ia):mJ (bq prog w) A E s (t1 a b out ia ib mg ac bc) (yZ Y a b r0 CH) st:=by
 refine zI I λI0 h1 h2 h3=>zl (at_some (Y:=Y) (x:=b) (i:=ib) h2) λx hx hm hr=>zl (at_some (Y:=Y) (x:=a) (i:=ia) (zgU h1)) λy hy GD E6=>?_;have I1:=I0.pushB M.SA M.SBb hx h2 λ_=>zx7 CF hr;refine Ho (jj hx ?_)
 by_cases he:ib+1=b.size
 .rw[if_pos (by simpa using he)];exact Hp ⟨g,.inl (zf _ rfl (I1.done M.SA M.SBb (.inr he)))⟩
 .rw[if_neg (by simpa using he)];refine Ho (jj hy ?_);refine Ho (zau M.H hB (M.ha y GD) M.hb (zBa h2) (zxH h2 he) (zim M.SBb _ (zkd h2)) λk hk Cu CR=>?_);have Dh:∀i,i<k->Rk Y b (ib+1+i)<Y y:=λi hi=>by have:=Cu i hi;unfold t9 at this;simpa using this
  have Dm:∀i,k<=i->i<b.size-(ib+1)->Y y<=Rk Y b (ib+1+i):=λi h4 h5=>by have:=CR i h4 h5;unfold t9 at this;simpa using this
  dsimp only
  by_cases CX:k>0
  .rw[if_pos CX];have I2:=MI.w6 M.SA M.SBb I1 k (zCR hk CX) λi hi _=>by have:=Dh i hi;exact zr4 E6 this
   by_cases he2:ib+1+k=b.size
   .rw[if_pos (by simpa using he2)];exact Hp ⟨g,.inl (zf _ rfl (I2.done M.SA M.SBb (.inr he2)))⟩
   .rw[if_neg (by simpa using he2)];refine zvy M g (zA I2 h1 (zCQ hk CX he2) (zEV h3)) ?_;have:=Dm k (ar _) (zCE hk CX he2);exact zr2 E6 this
  .rw[if_neg CX];have Dg:k=0:=zxg CX;subst Dg;refine zvy M g (zA I1 h1 (zxy h2 he) (zEu h3)) ?_;have:=Dm 0 (ar _) (zxH h2 he);simp only[dW] at this;exact zr2 E6 this
theorem zvw(M:MG prog w A s κ Y a₀ a b){st CH:aQ}(hB:SB κ a₀ st)(g:Gl CH st)(I:ur Y a b r0 out ia ib):mJ (bq prog w) A E s (g2 a b out ia ib mg ac bc) (yZ Y a b r0 CH) st:=by
 refine zI I λI0 h1 h2 h3=>zl (at_some (Y:=Y) (x:=b) (i:=ib) h2) λx hx hm hr=>Ho (zgB ?_);have g':=g.trans (Gl.gal st mg);have CB:=hB.gl (Gl.gal st mg);refine Ho (jj hx ?_);refine Ho (zau M.H CB (M.hb x hm) M.ha (zAW h1) (zxt h1) (zim M.SA _ (zAY h1)) λk hk Cu CR=>?_);have Dh:∀i,i<k->Rk Y a (ia+i)<=Y x:=λi hi=>by have:=Cu i hi;unfold t9 at this;simpa using this
 have Dm:∀i,k<=i->i<a.size-ia->Y x<Rk Y a (ia+i):=λi h4 h5=>by have:=CR i h4 h5;unfold t9 at this;simpa using this
 dsimp only
 by_cases CX:k>0
 .rw[if_pos CX];have I2:=MI.w5 M.SA M.SBb I0 k (zCT hk CX) λi hi _=>by have:=Dh i hi;exact zuo hr this
  by_cases he2:ia+k+1=a.size
  .rw[if_pos (by simpa using he2)];exact Hp ⟨g',.inl (zf _ rfl (I2.lastA M.SA M.SBb he2 M.last))⟩
  .rw[if_neg (by simpa using he2)]
   by_cases he3:ia+k=a.size
   .rw[if_pos (by simpa using he3)];exact Hp ⟨g',.inl (zf _ rfl (I2.done M.SA M.SBb (.inl he3)))⟩
   .rw[if_neg (by simpa using he3)];refine zvx M CB g' (zA I2 (zCS hk CX he2 he3) h2 (zEW h3)) ?_;have:=Dm k (ar _) (zCF hk CX he3);exact zp5 hr this
 .rw[if_neg CX];have Dg:k=0:=zxg CX;subst Dg;refine zvx M CB g' (zA I0 (zAX h1) h2 (zEv h3)) ?_;have:=Dm 0 (ar _) (zxt h1);simp only[dW] at this;exact zp5 hr this
theorem zzA(M:MG prog w A s κ Y a₀ a b){st CH:aQ}(hB:SB κ a₀ st)(g:Gl CH st)(I:ur Y a b r0 c.2.1 c.2.2.1 c.2.2.2.1):mJ (bq prog w) A E s (b2 a b c) (yZ Y a b r0 CH) st:=by
 unfold b2;split
 .exact zvw M hB g I
 .exact zvw M hB g I
theorem zzz(M:MG prog w A s κ Y a₀ a b){st:aQ}(hB:SB κ a₀ st)(I:ur Y a b (r0-x) c.2.1 c.2.2.1 c.2.2.2.1)(Fv:x<=r0)
  (hd:∀r,MR Y a b r->∀CC,Q (.done (ae r,CC)) st)(hn:∀c':yW,c'.1=af->ur Y a b (r0-(x+1)) c'.2.1 c'.2.2.1 c'.2.2.2.1->Q (.done c') st/\Q (.yield c') st):mJ (bq prog w) A E s (b1 a b mg c) Q st:=by
 refine zI I λI0 h1 h2 h3=>zl (at_some (Y:=Y) (x:=b) (i:=c.2.2.2.1) h2) λx' hx hm hr=>zl (at_some (Y:=Y) (x:=a) (i:=c.2.2.1) (zgU h1)) λy hy GD E6=>Ho (jj hx (Ho (jj hy (Ho (zpx M.H hB (M.hb _ hm) (M.ha _ GD) ?_)))));dsimp only
 by_cases hw:Y x'<Y y
 .rw[H3 hw,if_pos rfl];have I1:=I0.pushB M.SA M.SBb hx h2 λ_=>zr4 E6 hw;refine Ho (jj hx ?_)
  by_cases he:c.2.2.2.1+1=b.size
  .rw[if_pos (by simpa using he)];exact Hp (hd _ (I1.done M.SA M.SBb (.inr he)) _)
  .rw[if_neg (by simpa using he)];have:=hn (af,c.2.1.push x',c.2.2.1,c.2.2.2.1+1,0,c.2.2.2.2.2+1) rfl (zA I1 h1 (by dsimp only;exact zxy h2 he) (by dsimp only;exact zE4 h2 h3));split
   .exact Hp this.1
   .exact Hp this.2
 .rw[H0 hw,if_neg (by simp)];have I1:=I0.pushA M.SA M.SBb hy (zgU h1) λ_=>zCP hr hw;refine Ho (jj hy ?_)
  by_cases he:c.2.2.1+1+1=a.size
  .rw[if_pos (by simpa using he)];exact Hp (hd _ (I1.lastA M.SA M.SBb he M.last) _)
  .rw[if_neg (by simpa using he)];have:=hn (af,c.2.1.push y,c.2.2.1+1,c.2.2.2.1,c.2.2.2.2.1+1,0) rfl (zA I1 (by dsimp only;exact zxq h1 he) h2 (by dsimp only;exact zE1 h1 h3));split
   .exact Hp this.1
   .exact Hp this.2
theorem zzy(M:MG prog w A s κ Y a₀ a b){st CH:aQ}(hB:SB κ a₀ st)(g:Gl CH st)(I:ur Y a b r0 c.2.1 c.2.2.1 c.2.2.2.1)
  (hd:∀r Cs,Gl CH Cs->MR Y a b r->∀CC,Q (.done (ae r,CC)) Cs)(hn:∀(c':yV) Cs,Gl CH Cs->c'.1=af->ur Y a b (r0-1) c'.2.1 c'.2.2.1 c'.2.2.2.1->Q (.yield c') Cs):mJ (bq prog w) A E s (b0 a b c) Q st:=by
 have LN:1<=a.size+b.size:=by have:=I.2.1;exact zc 0x10512002522a5006 rfl this
 refine Ho (Hq (Hs (I:=λx c' Cs=>Cs=st/\c'.1=af/\ur Y a b (r0-x) c'.2.1 c'.2.2.1 c'.2.2.2.1/\x<=r0)
  (Q:=λc' Cs=>Cs=st/\((∃r,c'.1=ae r/\MR Y a b r)\/(c'.1=af/\ur Y a b (r0-1) c'.2.1 c'.2.2.1 c'.2.2.2.1))) ?step ?fin (zA rfl rfl (by simpa using I) (aE _))) ?post)
 case fin=>
  intro c' Cs Da;refine zI Da λFm h1 h2 h3=>?_;subst Fm;exact⟨rfl,.inr (ju h1 h2.1 h2.2.1 h2.2.2.1 (by have:=h2.2.2.2;exact zEs this))⟩
 case step=>
  intro x c' Cs _ hx CY;refine zI CY λFc h1 h2 h3=>?_;subst Fc;refine zzz M hB h2 h3 (λr hr CC=>⟨rfl,.inl (zf r rfl hr)⟩) λN3 hc DP=>(ju ⟨rfl,.inr (ju hc DP.1 DP.2.1 DP.2.2.1 (by have:=DP.2.2.2;exact zEU this))⟩ rfl hc DP ?_)
  have:=DP.2.2.2;have:=DP.2.1;have:=DP.2.2.1;exact jw 0x520a004948e9401920a06a525462ad006 rfl (by assumption) (by assumption)
 case post=>
  rintro c' Cs ⟨rfl,h⟩
  rcases h with⟨r,h1,h2⟩|⟨h1,h2⟩
  .rw[h1];exact Hp (hd r _ g h2 _)
  .rw[h1];refine Ho (lj (He ⟨rfl,?_⟩));refine Ho (Hq (Hs (I:=λx q Cw=>Gl CH Cw/\SB κ a₀ Cw/\q.1=af/\ur Y a b (r0-1) q.2.1 q.2.2.1 q.2.2.2.1) (Q:=λq Cw=>Gl CH Cw/\Bw Y a b (r0-1) q) ?step2 ?fin2 (zA g hB rfl h2)) ?post2)
   case fin2=>
    intro q Cw DN;exact zI DN λg' CB h4 h5=>⟨g',.inr ⟨h4,h5⟩⟩
   case step2=>
    intro x q Cw _ hx DZ;refine zI DZ λg' CB h4 h5=>Hq (zzA M CB g' h5) λr CI hl=>?_;cases r with
    | done q'=>exact hl
    | yield q'=>exact zu hl.1 ⟨by rw[hl.1.arr,<-g'.arr];exact CB.perm,by rw[hl.1.kind,<-g'.kind];exact CB.kind,by rw[hl.1.failed,<-g'.failed];exact CB.failed⟩ hl.2
   case post2=>
    rintro q Cw ⟨g',h⟩
    rcases h with⟨r,h4,h5⟩|⟨h4,h5⟩
    .rw[h4];exact Hp (hd r _ g' h5 _)
    .rw[h4];exact Ho (zgB (Hp (hn _ _ (g'.trans (Gl.gal _ _)) rfl h5)))
theorem zmC(M:MG prog w A s κ Y a₀ a b){st:aQ}(hB:SB κ a₀ st)(h1:1<=a.size)(h2:1<=b.size)(h:∀r Cs,Gl st Cs->MR Y a b r->Q r Cs):mJ (bq prog w) A E s (AG a b) Q st:=by
 rw[ztr];refine Ho (lj (He ⟨rfl,?_⟩));refine zl (at_some (Y:=Y) (x:=b) (i:=0) (ztZ h2)) λx hx hm hr=>?_;have I0:MI Y a b #[] 0 0:=⟨aE _,aE _,by simp,by simp,by simp,by simp⟩
 have I1:MI Y a b #[x] 0 1:=I0.pushB M.SA M.SBb hx (ztZ h2) λh=>by rw[<-hr];exact M.first 0 h
 refine Ho (jj hx ?_)
 by_cases he:1=b.size
 .rw[if_pos (by simpa using he)];exact Hp (h _ _ (.refl _) (I1.done M.SA M.SBb (.inr he)))
 .rw[if_neg (by simpa using he)]
  by_cases he2:0+1=a.size
  .rw[if_pos (by simpa using he2)];exact Hp (h _ _ (.refl _) (I1.lastA M.SA M.SBb he2 M.last))
  .rw[if_neg (by simpa using he2)];refine Ho (gY ?_);refine Ho (Hq (Hs (I:=λx q Cs=>Gl st Cs/\q.1=af/\ur Y a b (a.size+b.size-x) q.2.1 q.2.2.1 q.2.2.2.1) (Q:=λq Cs=>Gl st Cs/\∃r,q.1=ae r/\MR Y a b r) ?step ?fin (jP (.refl _) rfl I1 (by dsimp only;exact zd 0x1294528038128a08c602406 rfl h1 he2) (by dsimp only;exact zd 0x129a00e0488c602406 rfl h2 he) (by dsimp only;exact zb 0x808295486a805680 rfl))) ?post)
   case fin=>
    intro q Cs Ez;refine jg Ez λg h3 h4=>?_;exfalso;have:=h4.2.2.2;have:=h4.2.1;have:=h4.2.2.1;exact zg 0x1c094869401840a22e2052a315420ad006 rfl (by assumption) (by assumption)
   case step=>
    intro x q Cs _ hx Fn;exact jg Fn λg h3 h4=>zzy M (hB.gl g) g h4 (λr Cw g' hr CC=>(zah g' r rfl hr)) λc' Cw g' h5 h6=>(jP g' h5 h6.1 h6.2.1 h6.2.2.1 (by have:=h6.2.2.2;exact zEr this))
   case post=>
    intro q Cs Fy;refine qT Fy λg r h3 h4=>?_;rw[h3];exact Hp (h r Cs g h4)
end
structure MH(Y:Hw->Nat)(a b out:Array Hw)(na nb:Nat):Prop where
 la:na<=a.size
 lb:nb<=b.size
 perm:(a.toList.take na++b.toList.take nb++out.toList.reverse).Perm (a.toList++b.toList)
 srt:out.toList.reverse.Pairwise λx y=>Y x<=Y y
 oa:∀x∈out.toList,∀y∈a.toList.take na,Y y<=Y x
 ob:∀x∈out.toList,∀y∈b.toList.take nb,Y y<=Y x
section
variable{Y:Hw->Nat}{a b out:Array Hw}{na nb:Nat}
theorem MH.pushB(M:MH Y a b out na (nb+1))(SA:sQ Y a 0 a.size)(SBb:sQ Y b 0 b.size)(hx:b[nb]? = ae x)(CF:0<na->Rk Y a (na-1)<=Y x):MH Y a b (out.push x) na nb:=by
 have ex:Rk Y b nb=Y x:=by unfold Rk;rw[hx]
 have hd:=zlb hx;have GQ:nb<b.size:=(Array.getElem?_eq_some_iff.mp hx).1;refine⟨M.la,zgV GQ,?_,?_,?_,?_⟩
 .refine dE ?_ M.perm;rw[hd,aV];simp
 .rw[aV,gQ];refine List.pairwise_cons.mpr ⟨λy hy=>?_,M.srt⟩;exact M.ob y (List.mem_reverse.mp hy) x (by rw[hd];simp)
 .intro y hy z hz;rw[aV,bM,bK] at hy
  rcases hy with hy|rfl
  .exact M.oa y hy z hz
  .refine zM (kn (Y:=Y) hz) λj h1 h2 _ h3=>?_;have:=SA j (na-1) (aE _) (zrW h1) (by have:=M.la;exact zc 0x14a415a00200180915006 rfl h1 this);have:=CF (zxI h1);exact zg 0x40008c061880600846 rfl h3 (by assumption) this
 .intro y hy z hz;rw[aV,bM,bK] at hy
  rcases hy with hy|rfl
  .exact M.ob y hy z (by rw[hd];exact aW _ hz)
  .refine zM (kn (Y:=Y) hz) λj h1 h2 _ h3=>?_;have:=SBb j nb (aE _) (zgV h1) GQ;exact zg 0x40010c0600c4608846 rfl ex h3 this
theorem MH.pushA(M:MH Y a b out (na+1) nb)(SA:sQ Y a 0 a.size)(SBb:sQ Y b 0 b.size)(hx:a[na]? = ae x)(CF:0<nb->Rk Y b (nb-1)<=Y x):MH Y a b (out.push x) na nb:=by
 have ex:Rk Y a na=Y x:=by unfold Rk;rw[hx]
 have hd:=zlb hx;have Fb:na<a.size:=(Array.getElem?_eq_some_iff.mp hx).1;refine⟨zgV Fb,M.lb,?_,?_,?_,?_⟩
 .refine dE ?_ M.perm;rw[hd,aV];simp only[aR,gQ,o8,List.reverse_nil,dZ,ma];exact dC _ ln
 .rw[aV,gQ];refine List.pairwise_cons.mpr ⟨λy hy=>?_,M.srt⟩;exact M.oa y (List.mem_reverse.mp hy) x (by rw[hd];simp)
 .intro y hy z hz;rw[aV,bM,bK] at hy
  rcases hy with hy|rfl
  .exact M.oa y hy z (by rw[hd];exact aW _ hz)
  .refine zM (kn (Y:=Y) hz) λj h1 h2 _ h3=>?_;have:=SA j na (aE _) (zgV h1) Fb;exact zg 0x40010c0600c4608846 rfl ex h3 this
 .intro y hy z hz;rw[aV,bM,bK] at hy
  rcases hy with hy|rfl
  .exact M.ob y hy z hz
  .refine zM (kn (Y:=Y) hz) λj h1 h2 _ h3=>?_;have:=SBb j (nb-1) (aE _) (zrW h1) (by have:=M.lb;exact zc 0x14a415a00200180915006 rfl h1 this);have:=CF (zxI h1);exact zg 0x40008c061880600846 rfl h3 (by assumption) this
theorem zdo(h:i+k+1<=a.size):(a.extract i (i+(k+1))).reverse=(a.extract (i+1) (i+1+k)).reverse.push a[i]:=by
 have e:a[i]? = ae a[i]:=getElem?_pos a i (zB1 h);apply ny;rw[aV,d5,d5,ca,ca,cq,cq,zf1 e];simp only[fA];rw[List.take_succ_cons,o8]
theorem MH.w5(SA:sQ Y a 0 a.size)(SBb:sQ Y b 0 b.size)(k):∀(at_:Nat) {out:Array Hw},MH Y a b out (at_+k) nb->(∀i,at_<=i->i<at_+k->0<nb->Rk Y b (nb-1)<=Rk Y a i)->MH Y a b (out++(a.extract at_ (at_+k)).reverse) at_ nb:=by
 induction k with
 | zero=>intro at_ out M _;rw[dW,zcf];simpa using M
 | succ k ih=>
  intro at_ out M CF;have DJ:=M.la;have ih:=ih (at_+1) ((zp4:at_+1+k=at_+(k+1))▸M) λi h1 h2 h3=>CF i (zp1 h1) (zxU h2) h3;have e:a[at_]? = ae a[at_]:=getElem?_pos a at_ (zxS DJ);rw[zdo (zxQ DJ),append_push];exact ih.pushA SA SBb e λh=>ap (CF at_ (ar _) zxO h) (bp (by unfold Rk;rw[e]))
theorem MH.w6(SA:sQ Y a 0 a.size)(SBb:sQ Y b 0 b.size)(k):∀(at_:Nat) {out:Array Hw},MH Y a b out na (at_+k)->(∀i,at_<=i->i<at_+k->0<na->Rk Y a (na-1)<=Rk Y b i)->MH Y a b (out++(b.extract at_ (at_+k)).reverse) na at_:=by
 induction k with
 | zero=>intro at_ out M _;rw[dW,zcf];simpa using M
 | succ k ih=>
  intro at_ out M CF;have EN:=M.lb;have ih:=ih (at_+1) ((zp4:at_+1+k=at_+(k+1))▸M) λi h1 h2 h3=>CF i (zp1 h1) (zxU h2) h3;have e:b[at_]? = ae b[at_]:=getElem?_pos b at_ (zxS EN);rw[zdo (zxQ EN),append_push];exact ih.pushB SA SBb e λh=>ap (CF at_ (ar _) zxO h) (bp (by unfold Rk;rw[e]))
theorem kE(a:Array Hw)(i):(a.extract 0 i).toList=a.toList.take i:=by
 simp
theorem MH.done(M:MH Y a b out na nb)(SA:sQ Y a 0 a.size)(SBb:sQ Y b 0 b.size)(h:na=0\/nb=0):MR Y a b (a.extract 0 na++b.extract 0 nb++out.reverse):=by
 refine⟨by rw[bh,bh,kE,kE,d5];exact M.perm,?_⟩;rw[bh,bh,kE,kE,d5,bw,bw];refine zu (zu ((j8 SA).take) ((j8 SBb).take) (λx hx y hy=>?_)) M.srt (λx hx y hy=>?_)
 .rcases h with h|h
  .subst h;simp at hx
  .subst h;simp at hy
 .have E4:=List.mem_reverse.mp hy
  rcases List.mem_append.mp hx with hx|hx
  .exact M.oa y E4 x hx
  .exact M.ob y E4 x hx
theorem MH.firstB(M:MH Y a b out na nb)(SA:sQ Y a 0 a.size)(SBb:sQ Y b 0 b.size)(h:nb=1)(hf:∀i,i<a.size->Rk Y b 0<=Rk Y a i):MR Y a b (b.extract 0 nb++a.extract 0 na++out.reverse):=by
 refine⟨?_,?_⟩
 .refine dE ?_ M.perm;simp only[bh,kE,d5];exact lN _ eB
 .rw[bh,bh,kE,kE,d5,bw,bw];refine zu (zu ((j8 SBb).take) ((j8 SA).take) (λx hx y hy=>?_)) M.srt (λx hx y hy=>?_)
  .refine zM (kn (Y:=Y) hx) λj h1 h2 _ h3=>zM (kn (Y:=Y) hy) λj' E2 Er _ Mb=>?_;have:=hf j' Er;rw[show j=0 by exact zBB h h1] at h3;exact zr5 h3 Mb this
  .have E4:=List.mem_reverse.mp hy
   rcases List.mem_append.mp hx with hx|hx
   .exact M.ob y E4 x hx
   .exact M.oa y E4 x hx
end
noncomputable abbrev yN:=Option (Array Hw)×Nat×Nat×Array Hw×Nat×Nat
noncomputable abbrev wf:=Option (Array Hw)×Nat×Nat×Array Hw×Nat×Nat×Nat
noncomputable abbrev Ac:=Option (Array Hw)×Nat×Nat×Array Hw×Nat
noncomputable def u2(a b out:Array Hw)(na nb mg ac bc:Nat):StateT aQ lu (ForInStep wf):=do
 let x <-fe a (na-1)
 if (na-1==0)=ag then b9 (.done (ae (a.extract 0 (na-1)++b.extract 0 nb++(out.push x).reverse),na-1,nb,out.push x,mg,ac,bc))
 else if (decide (ac<7)&&decide (bc<7))=ag then b9 (.done (af,na-1,nb,out.push x,mg,ac,bc)) else b9 (.yield (af,na-1,nb,out.push x,mg,ac,bc))
noncomputable def u1(a b out:Array Hw)(na nb mg ac bc:Nat):StateT aQ lu (ForInStep wf):=do
 let x <-fe b (nb-1)
 if (nb-1==1)=ag then b9 (.done (ae (b.extract 0 (nb-1)++a.extract 0 na++(out.push x).reverse),na,nb-1,out.push x,mg,ac,bc))
 else do
  let y <-fe a (na-1)
  let r <-wx ag y b 0 (nb-1) (nb-1-1)
  match r with
  | some p=>
   if nb-1-p>0 then
    if (p==1)=ag then b9 (.done (ae (b.extract 0 p++a.extract 0 na++(out.push x++(b.extract p (nb-1)).reverse).reverse),na,p,out.push x++(b.extract p (nb-1)).reverse,mg,ac,nb-1-p))
    else if (p==0)=ag then b9 (.done (ae (a.extract 0 na++b.extract 0 p++(out.push x++(b.extract p (nb-1)).reverse).reverse),na,p,out.push x++(b.extract p (nb-1)).reverse,mg,ac,nb-1-p))
    else u2 a b (out.push x++(b.extract p (nb-1)).reverse) na p mg ac (nb-1-p)
   else u2 a b (out.push x) na (nb-1) mg ac (nb-1-p)
  | _=>b9 (.done (ae (a.extract 0 na++b.extract 0 (nb-1)++(out.push x).reverse),na,nb-1,out.push x,mg,ac,bc))
noncomputable def v2(a b out:Array Hw)(na nb mg ac bc:Nat):StateT aQ lu (ForInStep wf):=do
 xm mg
 let x <-fe b (nb-1)
 let r <-wx ai x a 0 na (na-1)
 match r with
 | some p=>
  if na-p>0 then
   if (p==0)=ag then b9 (.done (ae (a.extract 0 p++b.extract 0 nb++(out++(a.extract p na).reverse).reverse),p,nb,out++(a.extract p na).reverse,mg,na-p,bc))
   else u1 a b (out++(a.extract p na).reverse) p nb mg (na-p) bc
  else u1 a b out na nb mg (na-p) bc
 | _=>b9 (.done (ae (a.extract 0 na++b.extract 0 nb++out.reverse),na,nb,out,mg,ac,bc))
noncomputable def h2(a b:Array Hw)(c:wf):StateT aQ lu (ForInStep wf):=
 if c.2.2.2.2.1>1 then v2 a b c.2.2.2.1 c.2.1 c.2.2.1 (c.2.2.2.2.1-1) c.2.2.2.2.2.1 c.2.2.2.2.2.2 else v2 a b c.2.2.2.1 c.2.1 c.2.2.1 c.2.2.2.2.1 c.2.2.2.2.2.1 c.2.2.2.2.2.2
noncomputable def h1(a b:Array Hw)(mg:Nat)(c:yN):StateT aQ lu (ForInStep yN):=do
 let x <-fe b (c.2.2.1-1)
 let y <-fe a (c.2.1-1)
 let r <-lt' x y
 match r with
 | some w=>
  if w=ag then do
   let x <-fe a (c.2.1-1)
   if (c.2.1-1==0)=ag then b9 (.done (ae (a.extract 0 (c.2.1-1)++b.extract 0 c.2.2.1++(c.2.2.2.1.push x).reverse),c.2.1-1,c.2.2.1,c.2.2.2.1.push x,c.2.2.2.2.1+1,0))
   else if c.2.2.2.2.1+1>=mg then b9 (.done (af,c.2.1-1,c.2.2.1,c.2.2.2.1.push x,c.2.2.2.2.1+1,0)) else b9 (.yield (af,c.2.1-1,c.2.2.1,c.2.2.2.1.push x,c.2.2.2.2.1+1,0))
  else do
   let x <-fe b (c.2.2.1-1)
   if (c.2.2.1-1==1)=ag then b9 (.done (ae (b.extract 0 (c.2.2.1-1)++a.extract 0 c.2.1++(c.2.2.2.1.push x).reverse),c.2.1,c.2.2.1-1,c.2.2.2.1.push x,0,c.2.2.2.2.2+1))
   else if c.2.2.2.2.2+1>=mg then b9 (.done (af,c.2.1,c.2.2.1-1,c.2.2.2.1.push x,0,c.2.2.2.2.2+1)) else b9 (.yield (af,c.2.1,c.2.2.1-1,c.2.2.2.1.push x,0,c.2.2.2.2.2+1))
 | _=>b9 (.done (ae (a.extract 0 c.2.1++b.extract 0 c.2.2.1++c.2.2.2.1.reverse),c.2.1,c.2.2.1,c.2.2.2.1,c.2.2.2.2.1,c.2.2.2.2.2))
noncomputable def h0(a b:Array Hw)(c:Ac):StateT aQ lu (ForInStep Ac):=do
 let r <-iA [0:a.size+b.size] ((af,c.2.1,c.2.2.1,c.2.2.2.1,0,0):yN) λ_ r=>h1 a b c.2.2.2.2 r
 match r.1 with
 | some v=>b9 (.done (ae v,r.2.1,r.2.2.1,r.2.2.2.1,c.2.2.2.2))
 | none=>do
  liftM (sq "list.sort.gallop")
  let q <-iA [0:a.size+b.size] ((af,r.2.1,r.2.2.1,r.2.2.2.1,c.2.2.2.2+1,r.2.2.2.2.1,r.2.2.2.2.2):wf) λ_ q=>h2 a b q
  match q.1 with
  | some v=>b9 (.done (ae v,q.2.1,q.2.2.1,q.2.2.2.1,q.2.2.2.2.1))
  | none=>do
   xm (q.2.2.2.2.1+1)
   b9 (.yield (af,q.2.1,q.2.2.1,q.2.2.2.1,q.2.2.2.2.1+1))
noncomputable def mHi(a b:Array Hw):StateT aQ lu (Array Hw):=do
 liftM (sq "list.sort.merge-hi")
 let x <-fe a (a.size-1)
 if (a.size-1==0)=ag then b9 (a.extract 0 (a.size-1)++b.extract 0 b.size++(#[x]:Array Hw).reverse)
 else if (b.size==1)=ag then b9 (b.extract 0 b.size++a.extract 0 (a.size-1)++(#[x]:Array Hw).reverse)
 else do
  let g <-get
  let q <-iA [0:a.size+b.size] ((af,a.size-1,b.size,#[x],gallopOf g):Ac) λ_ q=>h0 a b q
  match q.1 with
  | some v=>b9 v
  | none=>liftM (pf "internal:list.sort.merge-bound" : lu (Array Hw))
theorem ztq(a b):Ao a b=mHi a b:=by kernel_rfl
section
variable{prog:Hk}{w:cV}{A:bn}{E:aD->ay->Prop}{s:ay}{a₀:Array Hw}{κ:d4}{Y:Hw->Nat}{a b:Array Hw}
def uo(Y:Hw->Nat)(a b:Array Hw)(r0:Nat)(out:Array Hw)(na nb:Nat):Prop:=MH Y a b out na nb/\1<=na/\2<=nb/\na+nb<=r0
def Ce(Y:Hw->Nat)(a b:Array Hw)(r0:Nat)(c:wf):Prop:=(∃r,c.1=ae r/\MR Y a b r)\/(c.1=af/\uo Y a b r0 c.2.2.2.1 c.2.1 c.2.2.1)
def yG(Y:Hw->Nat)(a b:Array Hw)(r0:Nat)(st:aQ)(r:ForInStep wf)(Cs:aQ):Prop:=Gl st Cs/\match r with|.done c=>Ce Y a b r0 c|.yield c=>c.1=af/\uo Y a b r0 c.2.2.2.1 c.2.1 c.2.2.1
theorem MH.pushA'(M:MH Y a b out na nb)(SA:sQ Y a 0 a.size)(SBb:sQ Y b 0 b.size)(Fb:1<=na)(hx:a[na-1]? = ae x)(CF:0<nb->Rk Y b (nb-1)<=Y x):MH Y a b (out.push x) (na-1) nb:=by
 obtain⟨n,rfl⟩:∃n,na=n+1:=⟨na-1,zwv Fb⟩
 exact M.pushA SA SBb hx CF
theorem MH.pushB'(M:MH Y a b out na nb)(SA:sQ Y a 0 a.size)(SBb:sQ Y b 0 b.size)(GQ:1<=nb)(hx:b[nb-1]? = ae x)(CF:0<na->Rk Y a (na-1)<=Y x):MH Y a b (out.push x) na (nb-1):=by
 obtain⟨n,rfl⟩:∃n,nb=n+1:=⟨nb-1,zwv GQ⟩
 exact M.pushB SA SBb hx CF
theorem zvB(M:MG prog w A s κ Y a₀ a b){st CH:aQ}(g:Gl CH st)(I:uo Y a b r0 out na nb)(CF:Rk Y b (nb-1)<=Rk Y a (na-1)):mJ (bq prog w) A E s (u2 a b out na nb mg ac bc) (yG Y a b r0 CH) st:=by
 refine zI I λI0 h1 h2 h3=>?_;have DJ:=I0.la;refine zl (at_some (Y:=Y) (x:=a) (i:=na-1) (zt9 h1 DJ)) λx hx hm hr=>?_;have I1:=I0.pushA' M.SA M.SBb h1 hx λ_=>zul CF hr;refine Ho (jj hx ?_)
 by_cases he:na-1=0
 .rw[if_pos (by simpa using he)];exact Hp ⟨g,.inl (zf _ rfl (I1.done M.SA M.SBb (.inl he)))⟩
 .rw[if_neg (by simpa using he)];have I2:uo Y a b r0 (out.push x) (na-1) nb:=(zA I1 (zt6 he) h2 (zCg h3))
  split
  .exact Hp ⟨g,.inr ⟨rfl,I2⟩⟩
  .exact Hp (zu g rfl I2)
theorem zvA(M:MG prog w A s κ Y a₀ a b){st CH:aQ}(hB:SB κ a₀ st)(g:Gl CH st)(I:uo Y a b r0 out na nb)(CF:Rk Y a (na-1)<=Rk Y b (nb-1)):mJ (bq prog w) A E s (u1 a b out na nb mg ac bc) (yG Y a b r0 CH) st:=by
 refine zI I λI0 h1 h2 h3=>?_;have DJ:=I0.la;have EN:=I0.lb;refine zl (at_some (Y:=Y) (x:=b) (i:=nb-1) (zuc h2 EN)) λx hx hm hr=>zl (at_some (Y:=Y) (x:=a) (i:=na-1) (zt9 h1 DJ)) λy hy GD E6=>?_;have I1:=I0.pushB' M.SA M.SBb (zt1 h2) hx λ_=>zul CF hr;refine Ho (jj hx ?_)
 by_cases he:nb-1=1
 .rw[if_pos (by simpa using he)];exact Hp ⟨g,.inl (zf _ rfl (I1.firstB M.SA M.SBb he M.first))⟩
 .rw[if_neg (by simpa using he)];refine Ho (jj hy ?_);refine Ho (zau M.H hB (M.ha y GD) M.hb (by exact zb 0x520aa28008006 rfl EN) (by exact zd 0x24154a520ad68002806 rfl h2) (λu v h4 h5 h6=>M.SBb u v (aE _) h5 (zC5 EN h6)) λp hp Cu CR=>?_);have Dh:∀i,i<p->Rk Y b i<Y y:=λi hi=>by have:=Cu i hi;unfold t9 at this;simpa using this
  have Dm:∀i,p<=i->i<nb-1->Y y<=Rk Y b i:=λi h4 h5=>by have:=CR i h4 h5;unfold t9 at this;simpa using this
  dsimp only
  by_cases CX:nb-1-p>0
  .rw[if_pos CX];have I2:=MH.w6 (na:=na) M.SA M.SBb (nb-1-p) p (out:=out.push x) (by rw[show p+(nb-1-p)=nb-1 by exact zxl CX];exact I1) λi h4 h5 _=>by have:=Dm i h4 (by exact zc 0x90d520a00490d6a2a2414018490d6a945006 rfl CX h5);exact zr2 E6 this
   rw[show p+(nb-1-p)=nb-1 by exact zxl CX] at I2
   by_cases he2:p=1
   .rw[if_pos (by simpa using he2)];exact Hp ⟨g,.inl (zf _ rfl (I2.firstB M.SA M.SBb he2 M.first))⟩
   .rw[if_neg (by simpa using he2)]
    by_cases he3:p=0
    .rw[if_pos (by simpa using he3)];exact Hp ⟨g,.inl (zf _ rfl (I2.done M.SA M.SBb (.inr he3)))⟩
    .rw[if_neg (by simpa using he3)];refine zvB M g (zA I2 h1 (zAo he2 he3) (zDz h3 CX)) ?_;have:=Dh (p-1) (zxf he3);exact zr4 E6 this
  .rw[if_neg CX];refine zvB M g (zA I1 h1 (by exact zd 0x9055403a520a88c602806 rfl h2 he) (zCh h3)) ?_;have:=Dh (nb-1-1) (by exact zb 0x14a520ad68038520ad528a00c602806 rfl h2 CX);exact zr4 E6 this
theorem zvC(M:MG prog w A s κ Y a₀ a b){st CH:aQ}(hB:SB κ a₀ st)(g:Gl CH st)(I:uo Y a b r0 out na nb):mJ (bq prog w) A E s (v2 a b out na nb mg ac bc) (yG Y a b r0 CH) st:=by
 refine zI I λI0 h1 h2 h3=>?_;have DJ:=I0.la;have EN:=I0.lb;refine zl (at_some (Y:=Y) (x:=b) (i:=nb-1) (zuc h2 EN)) λx hx hm hr=>Ho (zgB ?_);have g':=g.trans (Gl.gal st mg);have CB:=hB.gl (Gl.gal st mg);refine Ho (jj hx ?_);refine Ho (zau M.H CB (M.hb x hm) M.ha (zBs DJ) (zrU h1) (λu v h4 h5 h6=>M.SA u v (aE _) h5 (zC6 DJ h6)) λp hp Cu CR=>?_);have Dh:∀i,i<p->Rk Y a i<=Y x:=λi hi=>by have:=Cu i hi;unfold t9 at this;simpa using this
 have Dm:∀i,p<=i->i<na->Y x<Rk Y a i:=λi h4 h5=>by have:=CR i h4 h5;unfold t9 at this;simpa using this
 dsimp only
 by_cases CX:na-p>0
 .rw[if_pos CX];have I2:=MH.w5 (nb:=nb) M.SA M.SBb (na-p) p (out:=out) (by rw[show p+(na-p)=na by exact zxv CX];exact I0) λi h4 h5 _=>by have:=Dm i h4 (by exact zc 0x520a0041a8a8905006106a945006 rfl CX h5);exact zp5 hr this
  rw[show p+(na-p)=na by exact zxv CX] at I2
  by_cases he2:p=0
  .rw[if_pos (by simpa using he2)];exact Hp ⟨g',.inl (zf _ rfl (I2.done M.SA M.SBb (.inl he2)))⟩
  .rw[if_neg (by simpa using he2)];refine zvA M CB g' (zA I2 (zAn he2) h2 (zDG h3 hp)) ?_;have:=Dh (p-1) (zxf he2);exact zuo hr this
 .rw[if_neg CX];refine zvA M CB g' (zA I0 (zt0 h1) h2 (zCi h3)) ?_;have:=Dh (na-1) (zA6 h1 CX);exact zuo hr this
theorem zzD(M:MG prog w A s κ Y a₀ a b){st CH:aQ}(hB:SB κ a₀ st)(g:Gl CH st)(I:uo Y a b r0 c.2.2.2.1 c.2.1 c.2.2.1):mJ (bq prog w) A E s (h2 a b c) (yG Y a b r0 CH) st:=by
 unfold h2;split
 .exact zvC M hB g I
 .exact zvC M hB g I
theorem zzC(M:MG prog w A s κ Y a₀ a b){st:aQ}(hB:SB κ a₀ st)(I:uo Y a b (r0-x) c.2.2.2.1 c.2.1 c.2.2.1)(Fv:x<=r0)
  (hd:∀r,MR Y a b r->∀CC,Q (.done (ae r,CC)) st)(hn:∀c':yN,c'.1=af->uo Y a b (r0-(x+1)) c'.2.2.2.1 c'.2.1 c'.2.2.1->Q (.done c') st/\Q (.yield c') st):mJ (bq prog w) A E s (h1 a b mg c) Q st:=by
 refine zI I λI0 E2 Er h3=>?_;have DJ:=I0.la;have EN:=I0.lb;refine zl (at_some (Y:=Y) (x:=b) (i:=c.2.2.1-1) (zuc Er EN)) λx' hx hm hr=>zl (at_some (Y:=Y) (x:=a) (i:=c.2.1-1) (zt9 E2 DJ)) λy hy GD E6=>Ho (jj hx (Ho (jj hy (Ho (zpx M.H hB (M.hb _ hm) (M.ha _ GD) ?_)))));dsimp only
 by_cases hw:Y x'<Y y
 .rw[H3 hw,if_pos rfl];have I1:=I0.pushA' M.SA M.SBb E2 hy λ_=>zp5 hr hw;refine Ho (jj hy ?_)
  by_cases he:c.2.1-1=0
  .rw[if_pos (by simpa using he)];exact Hp (hd _ (I1.done M.SA M.SBb (.inl he)) _)
  .rw[if_neg (by simpa using he)];have:=hn (af,c.2.1-1,c.2.2.1,c.2.2.2.1.push y,c.2.2.2.2.1+1,0) rfl (zA I1 (by dsimp only;exact zt6 he) (by dsimp only;exact zt2 Er) (by dsimp only;exact zg 0x2474154290568018aa10500602406 rfl E2 h3));split
   .exact Hp this.1
   .exact Hp this.2
 .rw[H0 hw,if_neg (by simp)];have I1:=I0.pushB' M.SA M.SBb (zt1 Er) hx λ_=>zxZ E6 hw;refine Ho (jj hx ?_)
  by_cases he:c.2.2.1-1=1
  .rw[if_pos (by simpa using he)];exact Hp (hd _ (I1.firstB M.SA M.SBb he M.first) _)
  .rw[if_neg (by simpa using he)];have:=hn (af,c.2.1,c.2.2.1-1,c.2.2.2.1.push x',0,c.2.2.2.2.2+1) rfl (zA I1 (by dsimp only;exact zt0 E2) (by dsimp only;exact zd 0x9055403a520a88c602806 rfl Er he) (by dsimp only;exact zg 0x247415521a828018aa1050060a806 rfl Er h3));split
   .exact Hp this.1
   .exact Hp this.2
theorem zzB(M:MG prog w A s κ Y a₀ a b){st CH:aQ}(hB:SB κ a₀ st)(g:Gl CH st)(I:uo Y a b r0 c.2.2.2.1 c.2.1 c.2.2.1)
  (hd:∀r Cs,Gl CH Cs->MR Y a b r->∀CC,Q (.done (ae r,CC)) Cs)(hn:∀(c':Ac) Cs,Gl CH Cs->c'.1=af->uo Y a b (r0-1) c'.2.2.2.1 c'.2.1 c'.2.2.1->Q (.yield c') Cs):mJ (bq prog w) A E s (h0 a b c) Q st:=by
 have LN:1<=a.size+b.size:=by have:=I.2.1;have:=I.1.la;exact zc 0x1051200080612406 rfl (by assumption) this
 refine Ho (Hq (Hs (I:=λx c' Cs=>Cs=st/\c'.1=af/\uo Y a b (r0-x) c'.2.2.2.1 c'.2.1 c'.2.2.1/\x<=r0)
  (Q:=λc' Cs=>Cs=st/\((∃r,c'.1=ae r/\MR Y a b r)\/(c'.1=af/\uo Y a b (r0-1) c'.2.2.2.1 c'.2.1 c'.2.2.1))) ?step ?fin (zA rfl rfl (by simpa using I) (aE _))) ?post)
 case fin=>
  intro c' Cs Da;refine zI Da λFm h1 h2 h3=>?_;subst Fm;exact⟨rfl,.inr (ju h1 h2.1 h2.2.1 h2.2.2.1 (by have:=h2.2.2.2;exact zy 0x915420a0083a22e2a841401883a2406 rfl LN this))⟩
 case step=>
  intro x c' Cs _ hx CY;refine zI CY λFc h1 h2 h3=>?_;subst Fc;refine zzC M hB h2 h3 (λr hr CC=>⟨rfl,.inl (zf r rfl hr)⟩) λN3 hc DP=>(ju ⟨rfl,.inr (ju hc DP.1 DP.2.1 DP.2.2.1 (by have:=DP.2.2.2;exact zg 0x915420a0123a0aa105006 rfl this))⟩ rfl hc DP ?_)
  have:=DP.2.2.2;have:=DP.2.1;have:=DP.2.2.1;exact zg 0x520a006a01920a06a315006 rfl (by assumption) this
 case post=>
  rintro c' Cs ⟨rfl,h⟩
  rcases h with⟨r,h1,h2⟩|⟨h1,h2⟩
  .rw[h1];exact Hp (hd r _ g h2 _)
  .rw[h1];refine Ho (lj (He ⟨rfl,?_⟩));refine Ho (Hq (Hs (I:=λx q Cw=>Gl CH Cw/\SB κ a₀ Cw/\q.1=af/\uo Y a b (r0-1) q.2.2.2.1 q.2.1 q.2.2.1) (Q:=λq Cw=>Gl CH Cw/\Ce Y a b (r0-1) q) ?step2 ?fin2 (zA g hB rfl h2)) ?post2)
   case fin2=>
    intro q Cw DN;exact zI DN λg' CB h4 h5=>⟨g',.inr ⟨h4,h5⟩⟩
   case step2=>
    intro x q Cw _ hx DZ;refine zI DZ λg' CB h4 h5=>Hq (zzD M CB g' h5) λr CI hl=>?_;cases r with
    | done q'=>exact hl
    | yield q'=>exact zu hl.1 ⟨by rw[hl.1.arr,<-g'.arr];exact CB.perm,by rw[hl.1.kind,<-g'.kind];exact CB.kind,by rw[hl.1.failed,<-g'.failed];exact CB.failed⟩ hl.2
   case post2=>
    rintro q Cw ⟨g',h⟩
    rcases h with⟨r,h4,h5⟩|⟨h4,h5⟩
    .rw[h4];exact Hp (hd r _ g' h5 _)
    .rw[h4];exact Ho (zgB (Hp (hn _ _ (g'.trans (Gl.gal _ _)) rfl h5)))
theorem zmB(M:MG prog w A s κ Y a₀ a b){st:aQ}(hB:SB κ a₀ st)(h1:1<=a.size)(h2:1<=b.size)(h:∀r Cs,Gl st Cs->MR Y a b r->Q r Cs):mJ (bq prog w) A E s (Ao a b) Q st:=by
 rw[ztq];refine Ho (lj (He ⟨rfl,?_⟩));refine zl (at_some (Y:=Y) (x:=a) (i:=a.size-1) (zrU h1)) λx hx hm hr=>?_;have I0:MH Y a b #[] a.size b.size:=⟨ar _,ar _,by simp[dj],by simp,by simp,by simp⟩
 have I1:MH Y a b #[x] (a.size-1) b.size:=I0.pushA' M.SA M.SBb h1 hx λh=>by rw[<-hr];exact M.last _ (zrU h2)
 refine Ho (jj hx ?_)
 by_cases he:a.size-1=0
 .rw[if_pos (by simpa using he)];exact Hp (h _ _ (.refl _) (I1.done M.SA M.SBb (.inl he)))
 .rw[if_neg (by simpa using he)]
  by_cases he2:b.size=1
  .rw[if_pos (by simpa using he2)];exact Hp (h _ _ (.refl _) (I1.firstB M.SA M.SBb he2 M.first))
  .rw[if_neg (by simpa using he2)];refine Ho (gY ?_);refine Ho (Hq (Hs (I:=λx q Cs=>Gl st Cs/\q.1=af/\uo Y a b (a.size+b.size-x) q.2.2.2.1 q.2.1 q.2.2.1) (Q:=λq Cs=>Gl st Cs/\∃r,q.1=ae r/\MR Y a b r) ?step ?fin (jP (.refl _) rfl I1 (by dsimp only;exact zt6 he) (by dsimp only;exact zd 0x500e9008c602406 rfl h2 he2) (by dsimp only;exact zb 0x2020a542905680 rfl))) ?post)
   case fin=>
    intro q Cs Ez;refine jg Ez λg h3 h4=>?_;exfalso;have:=h4.2.2.2;have:=h4.2.1;have:=h4.2.2.1;exact zg 0x1c2a01862a22e3152a105006 rfl (by assumption) this
   case step=>
    intro x q Cs _ hx Fn;exact jg Fn λg h3 h4=>zzB M (hB.gl g) g h4 (λr Cw g' hr CC=>(zah g' r rfl hr)) λc' Cw g' h5 h6=>(jP g' h5 h6.1 h6.2.1 h6.2.2.1 (by have:=h6.2.2.2;exact zy 0x249418a950828049062a56a105006 rfl this))
   case post=>
    intro q Cs Fy;refine qT Fy λg r h3 h4=>?_;rw[h3];exact Hp (h r Cs g h4)
end
noncomputable def uI(sa:Nat)(l:List Hw)(j0:Nat)(arr:Array Hw):Array Hw:=(l.zipIdx j0).foldl (λa (p:Hw×Nat)=>a.setIfInBounds (sa+p.2) p.1) arr
theorem zne(sa)(l):∀(j0:Nat) (arr:Array Hw),sa+j0+l.length<=arr.size->∀k,(uI sa l j0 arr)[k]? = if sa+j0<=k/\k<sa+j0+l.length then l[k-(sa+j0)]? else arr[k]?:=by
 induction l with
 | nil=>exact λj0 arr h k=>(if_neg λh=>Nat.not_lt.mpr h.1 h.2).symm
 | cons x l ih=>
  intro j0 arr h k;have h:sa+j0+(l.length+1)<=arr.size:=h;show (uI sa l (j0+1) (arr.setIfInBounds (sa+j0) x))[k]? = if sa+j0<=k/\k<sa+j0+(l.length+1) then _ else _
  rw[ih (j0+1) _ (by rw[iN];exact zDp h) k,Array.getElem?_setIfInBounds]
  by_cases h1:k=sa+j0
  .rw[h1,if_neg (by exact zDj),if_pos rfl,if_pos (by exact zDq h),if_pos (by exact zDe),gX];rfl
  .by_cases h2:sa+(j0+1)<=k/\k<sa+(j0+1)+l.length
   .rw[if_pos h2,if_pos (by exact zDk h2),show k-(sa+j0)=k-(sa+(j0+1))+1 by exact zDm h2,dO]
   .rw[if_neg h2,if_neg (by exact zDc h1),if_neg (by exact zEl h1 h2)]
theorem zhS(i):o9 i=(do
 let s <-get
 let (ae (sa,na,power),ae (sb,nb,_)):=((Hr s)[i]?,(Hr s)[i+1]?)|unsupported "internal:list.sort.pending"
 set (gv s (((Hr s).setIfInBounds i (sa,na+nb,power)).eraseIdxIfInBounds (i+1)))
 let ae k <-wx ai (<-fe (Hv s) sb) (Hv s) sa na 0|return ai
 let (sa,na):=(sa+k,na-k)
 if na==0 then return ag
 let ae nb <-wx ag (<-fe (Hv s) (sa+na-1)) (Hv s) sb nb (nb-1)|return ai
 if nb==0 then return ag
 let x:=(Hv s).extract sa sb
 let y:=(Hv s).extract sb (sb+nb)
 let merged <-if na<=nb then AG x y else Ao x y
 modify λs=>setArr s (merged.toList.zipIdx.foldl (λa (p,j)=>a.setIfInBounds (sa+j) p) (Hv s))
 return (dY (<-get)).isNone):=rfl
section
variable{prog:Hk}{w:cV}{A:bn}{E:aD->ay->Prop}{s:ay}{a₀:Array Hw}{κ:d4}{Y:Hw->Nat}
theorem zrR{U:Type}{x:U}{Q:PUnit->U->Prop}{st:U}(h:Q ⟨⟩ x):mJ M A E s (set x:StateT U lu PUnit) Q st:=by
 unfold mJ;rw[StateT.run_set];exact Ha ⟨rfl,h⟩
theorem zdO(h:i+k<j)(hj:j<=x.size):Rk Y (x.extract i j) k=Rk Y x (i+k):=by
 refine j5 ?_;rw[Array.getElem?_extract,if_pos (by exact zDF h hj)]
theorem size_extract{x:Array Hw}(hj:j<=x.size):(x.extract i j).size=j-i:=by rw[Array.size_extract];exact zc 0x205441062a208006 rfl hj
structure MA(κ:d4)(Y:Hw->Nat)(a₀:Array Hw)(st:aQ)(i sa na pw nb:Nat)(Cs:aQ):Prop where
 sb:SB κ a₀ Cs
 srt:sQ Y (Hv Cs) sa (sa+na+nb)
 out:tq (Hv st) (Hv Cs) sa (sa+na+nb)
 pend:Hr Cs=((Hr st).setIfInBounds i (sa,na+nb,pw)).eraseIdxIfInBounds (i+1)
theorem zmA(H:qL prog w A s κ Y a₀){st:aQ}(hB:SB κ a₀ st)(h1:(Hr st)[i]? = ae (sa,na,pw))(h2:(Hr st)[i+1]? = ae (sa+na,nb,pw'))(Fb:1<=na)(GQ:1<=nb)(hsz:sa+na+nb<=a₀.size)
  (S1:sQ Y (Hv st) sa (sa+na))(S2:sQ Y (Hv st) (sa+na) (sa+na+nb))(h:∀Cs,MA κ Y a₀ st i sa na pw nb Cs->Q ag Cs):mJ (bq prog w) A E s (o9 i) Q st:=by
 have CW:=hB.size;have FV:∀p∈(Hv st).toList,p∈a₀.toList:=λp hp=>(Array.perm_iff_toList_perm.mp hB.perm).mem_iff.mp hp;rw[zhS];refine Ho (gY ?_);rw[h1,h2];refine Ho (zrR ?_);obtain⟨st1,hst1⟩:∃x,x=gv st (((Hr st).setIfInBounds i (sa,na+nb,pw)).eraseIdxIfInBounds (i+1)):=⟨_,rfl⟩
 rw[<-hst1];have ea:Hv st1=Hv st:=by rw[hst1]
 have ep:Hr st1=((Hr st).setIfInBounds i (sa,na+nb,pw)).eraseIdxIfInBounds (i+1):=by rw[hst1]
 have GM:SB κ a₀ st1:=by rw[hst1];exact⟨hB.perm,hB.kind,hB.failed⟩
 clear hst1;refine zl (at_some (Y:=Y) (x:=Hv st) (i:=sa+na) (by exact zy 0x921052802084620c20a50061a406 rfl GQ hsz CW)) λx hx M6 MW=>Ho (jj hx ?_);refine Ho (zau H GM (FV x M6) FV (by exact zy 0x2082802084620c20a5006 rfl hsz CW) (by exact ztZ Fb) S1 λk hk Cu CR=>?_);have Dh:∀j,j<k->Rk Y (Hv st) (sa+j)<=Y x:=λj hj=>by have:=Cu j hj;unfold t9 at this;simpa using this
 have Dm:∀j,k<=j->j<na->Y x<Rk Y (Hv st) (sa+j):=λj h4 h5=>by have:=CR j h4 h5;unfold t9 at this;simpa using this
 obtain⟨n1,rfl⟩:∃n1,na=k+n1:=⟨na-k,by exact zb 0x4150d00200406 rfl hk⟩
 simp only[fA]
 by_cases hn0:n1=0
 .rw[if_pos (by simpa using hn0)];refine Hp (h st1 ⟨GM,λu v h3 h4 h5=>?_,by rw[ea];exact tq.refl _ _ _,ep⟩);rw[ea]
  by_cases hv:v<sa+(k+n1)
  .exact S1 u v h3 h4 hv
  .by_cases hu:u<sa+(k+n1)
   .have q1:=Dh (u-sa) (by exact zg 0x9210568018a81a24140190311862a2406 rfl Fb hn0 hu);rw[show sa+(u-sa)=u by exact zug h3] at q1;have q2:=S2 (sa+(k+n1)) v (ar _) (by exact zuu hv) h5;exact zg 0x400088061800618846 rfl MW q1 q2
   .exact S2 u v (by exact zuu hu) h4 h5
 .rw[if_neg (by simpa using hn0)];refine zl (at_some (Y:=Y) (x:=Hv st) (i:=sa+k+(n1)-1) (by exact jw 0xd2910414a568021441a029401841a240620c46 rfl CW Fb hsz)) λy hy GD E6=>Ho (jj hy ?_);refine Ho (zau H GM (FV y GD) FV (by exact jw 0x10620d014a00a310680a500629046 rfl CW hsz) (by exact zrU GQ) S2 λm hm Rr QG=>?_);have Kq:∀j,j<m->Rk Y (Hv st) (sa+(k+n1)+j)<Y y:=λj hj=>by have:=Rr j hj;unfold t9 at this;simpa using this
  have Lo:∀j,m<=j->j<nb->Y y<=Rk Y (Hv st) (sa+(k+n1)+j):=λj h4 h5=>by have:=QG j h4 h5;unfold t9 at this;simpa using this
  have NK:Rk Y (Hv st) (sa+(k+n1)-1)=Y y:=by rw[show sa+(k+n1)-1=sa+k+(n1)-1 by exact zDf];exact E6
  dsimp only
  by_cases hm0:m=0
  .rw[if_pos (by simpa using hm0)];refine Hp (h st1 ⟨GM,λu v h3 h4 h5=>?_,by rw[ea];exact tq.refl _ _ _,ep⟩);rw[ea]
   by_cases hv:v<sa+(k+n1)
   .exact S1 u v h3 h4 hv
   .by_cases hu:u<sa+(k+n1)
    .have q1:=S1 u (sa+(k+n1)-1) h3 (by exact zg 0x2462a069500062a068905006 rfl hu) (by exact zuk Fb);have q2:=Lo (v-(sa+(k+n1))) (by exact zy 0x41d0540d40040046 rfl hm0) (by exact zy 0x1123150340568020c540d2890500622406 rfl GQ h5);rw[show sa+(k+n1)+(v-(sa+(k+n1)))=v by exact zEm hv] at q2
     lia
    .exact S2 u v (by exact zuu hu) h4 h5
  .rw[if_neg (by simpa using hm0)];obtain⟨xa,hxa⟩:∃q,q=(Hv st).extract (sa+k) (sa+(k+n1)):=⟨_,rfl⟩
   obtain⟨yb,hyb⟩:∃q,q=(Hv st).extract (sa+(k+n1)) (sa+(k+n1)+m):=⟨_,rfl⟩
   rw[<-hxa,<-hyb];have HF:xa.size=n1:=by rw[hxa,size_extract (by exact zyq CW hsz)];exact zx8
   have Js:yb.size=m:=by rw[hyb,size_extract (by exact zys CW hsz hm)];exact zyk
   have ra:∀j,j<n1->Rk Y xa j=Rk Y (Hv st) (sa+k+j):=λj hj=>by rw[hxa];exact zdO (by exact zus hj) (by exact zyq CW hsz)
   have rb:∀j,j<m->Rk Y yb j=Rk Y (Hv st) (sa+(k+n1)+j):=λj hj=>by rw[hyb];exact zdO (by exact zy 0x1041a029448c41a0294a00891d006 rfl hj) (by exact zys CW hsz hm)
   have la:xa.toList=((Hv st).toList.drop (sa+k)).take (n1):=by rw[hxa,ca,cq,show sa+(k+n1)-(sa+k)=n1 by exact zx8]
   have lb:yb.toList=((Hv st).toList.drop (sa+(k+n1))).take m:=by rw[hyb,ca,cq,show sa+(k+n1)+m-(sa+(k+n1))=m by exact zyk]
   have OX:MG prog w A s κ Y a₀ xa yb:=by
    refine⟨H,λp hp=>FV p ?_,λp hp=>FV p ?_,λu v _ h4 h5=>?_,λu v _ h4 h5=>?_,λj hj=>?_,λj hj=>?_⟩
    .rw[la] at hp;exact gE (eR hp)
    .rw[lb] at hp;exact gE (eR hp)
    .rw[HF] at h5;rw[ra u (by exact zr3 h4 h5),ra v (by exact zue h5)];exact S1 _ _ (by exact zc 0x820a5000 rfl) (by exact zg 0xc20a50410528018806 rfl h4) (by exact zus h5)
    .rw[Js] at h5;rw[rb u (by exact zr3 h4 h5),rb v (by exact zue h5)];exact S2 _ _ (by exact zg 0x310680a5041a0280 rfl) (by exact zy 0x1041a0294188340528020c06 rfl h4) (by exact jw 0x1041a029448c41a0294a00a91d00621406 rfl hm h5)
    .rw[HF] at hj;rw[rb 0 (by exact zAm hm0),ra j hj];have:=Dm (k+j) (by exact zkf) (by exact zum hj);simp only[dW];rw[show sa+(k+j)=sa+k+j by exact zx9] at this;exact zp5 MW this
    .rw[Js] at hj;rw[rb j hj,ra (xa.size-1) (by exact zBN hn0 HF),HF];have:=Kq j hj;rw[show sa+k+(n1-1)=sa+(k+n1)-1 by exact zDd hn0]
     lia
   have fin:∀r Cs,Gl st1 Cs->MR Y xa yb r->mJ (bq prog w) A E s (do
     modify λs=>setArr s (r.toList.zipIdx.foldl (λa (p,j)=>a.setIfInBounds (sa+k+j) p) (Hv s))
     return (dY (<-get)).isNone) Q Cs:=by
    intro r Cs g Si;obtain⟨GG,I8⟩:=Si;obtain⟨rl,Dt⟩:∃l,l=r.toList:=⟨_,rfl⟩
    rw[<-Dt] at GG I8 ⊢;clear Dt;refine Ho (gu (Ho (gY (Hp ?_))));have hf:(dY (setArr Cs (uI (sa+k) rl 0 (Hv Cs)))).isNone=ag:=by
     rw[g.failed,GM.failed];rfl
    rw[hf];have lr:rl.length=(n1)+m:=by have:=GG.length_eq;simp only[aq,aN,HF,Js] at this;exact this
    have tl:((Hv st).toList.take (sa+k)).length=sa+k:=by simp;exact jw 0x41410414c086520680a500618846 rfl CW hsz
    have eg:∀j,(uI (sa+k) rl 0 (Hv Cs))[j]? = if sa+k<=j/\j<sa+(k+n1)+m then rl[j-(sa+k)]? else (Hv st)[j]?:=λj=>by
     rw[zne (sa+k) rl 0 (Hv Cs) (by rw[g.arr,ea,lr];exact zFa CW hsz hm) j,lr,g.arr,ea];simp only[dW];rw[show sa+k+(n1+m)=sa+(k+n1)+m by exact zEn]
    have el:(uI (sa+k) rl 0 (Hv Cs)).toList=(Hv st).toList.take (sa+k)++rl++(Hv st).toList.drop (sa+(k+n1)+m):=by
     apply fV;intro j;rw[bg,eg j]
     by_cases q1:j<sa+k
     .rw[if_neg (by exact zyo q1),aR,bE (by exact zD3 tl q1),nv,if_pos q1,bg]
     .by_cases q2:j<sa+(k+n1)+m
      .rw[if_pos (by exact zER q1 q2),aR,bY (by exact zDT tl q1),bE (by exact zFb hm0 lr tl q2),tl]
      .rw[if_neg (by exact zEQ q2),bY (by rw[aq];exact zE9 lr tl q2),ik,bg,aq,tl,lr]
       congr 1;exact zy 0x41d041a501520c540d294008e418a81a5120a00c6 rfl q2
    have Fw:(uI (sa+k) rl 0 (Hv Cs)).Perm (Hv st):=by
     rw[Array.perm_iff_toList_perm,el];have e0:(Hv st).toList=(Hv st).toList.take (sa+k)++(xa.toList++yb.toList)++(Hv st).toList.drop (sa+(k+n1)+m):=by
      have e2:xa.toList++yb.toList++(Hv st).toList.drop (sa+(k+n1)+m)=(Hv st).toList.drop (sa+k):=by
       rw[la,lb];have f1:(Hv st).toList.drop (sa+(k+n1))=((Hv st).toList.drop (sa+k)).drop (n1):=by rw[r9];congr 1;exact zx9
       have f2:(Hv st).toList.drop (sa+(k+n1)+m)=((Hv st).toList.drop (sa+(k+n1))).drop m:=by rw[r9]
       rw[f2,aR,eD,f1,eD]
      rw[aR,e2,eD]
     conv=>rhs;rw[e0]
     exact lN _ (dC _ GG)
    have Es:SB κ a₀ (setArr Cs (uI (sa+k) rl 0 (Hv Cs))):=⟨Fw.trans hB.perm,by show kindOf Cs=κ;rw[g.kind];exact GM.kind,by show dY Cs=af;rw[g.failed];exact GM.failed⟩
    refine h _ ⟨Es,?_,λj hj=>?_,?_⟩
    .have Mp:∀u,u<sa+k->Rk Y (uI (sa+k) rl 0 (Hv Cs)) u=Rk Y (Hv st) u:=λu hu=>j5 (by rw[eg u,if_neg (by exact zyo hu)]);have Pc:∀u,sa+(k+n1)+m<=u->Rk Y (uI (sa+k) rl 0 (Hv Cs)) u=Rk Y (Hv st) u:=λu hu=>j5 (by rw[eg u,if_neg (by exact zEp hu)]);have NW:∀u,sa+k<=u->u<sa+(k+n1)+m->∃p,rl[u-(sa+k)]? = ae p/\Rk Y (uI (sa+k) rl 0 (Hv Cs)) u=Y p/\((∃j,j<n1/\Y p=Rk Y (Hv st) (sa+k+j))\/∃j,j<m/\Y p=Rk Y (Hv st) (sa+(k+n1)+j)):=λu q1 q2=>by
      have hl:u-(sa+k)<rl.length:=by exact zuv hm0 lr q2
      refine zz (rl[u-(sa+k)]) (aC hl) ?_ ?_
      .unfold Rk;rw[eg u,if_pos ⟨q1,q2⟩,aC hl]
      .have Ov:rl[u-(sa+k)]∈xa.toList++yb.toList:=GG.mem_iff.mp (cH hl)
       rcases List.mem_append.mp Ov with q|q
       .refine zM (qk (Y:=Y) (a:=xa) (i:=0) (by simpa using q)) λj _ h6 _ h7=>?_;rw[HF] at h6;exact .inl (zf j h6 (by rw[<-h7,ra j h6]))
       .refine zM (qk (Y:=Y) (a:=yb) (i:=0) (by simpa using q)) λj _ h6 _ h7=>?_;rw[Js] at h6;exact .inr (zf j h6 (by rw[<-h7,rb j h6]))
     intro u v h3 h4 h5;show Rk Y (uI (sa+k) rl 0 (Hv Cs)) u<=Rk Y (uI (sa+k) rl 0 (Hv Cs)) v
     by_cases c1:v<sa+k
     .rw[Mp u (by exact zyg h4 c1),Mp v c1];exact S1 u v h3 h4 (by exact zg 0x315034482801068905006 rfl c1)
     .by_cases c2:v<sa+(k+n1)+m
      .refine zl (NW v (by exact zup c1) c2) λp Ec D0 HB=>?_
       by_cases c3:u<sa+k
       .rw[Mp u c3,D0];have q1:=Dh (u-sa) (by exact zc 0x92105680106890500600406 rfl h3 c3);rw[show sa+(u-sa)=u by exact zug h3] at q1
        rcases HB with⟨j,h6,h7⟩|⟨j,h6,h7⟩
        .rw[h7];exact S1 u _ h3 (by exact zg 0xc41a50001068905006 rfl c3) (by exact zus h6)
        .have:=S2 (sa+(k+n1)) (sa+(k+n1)+j) (ar _) (by exact zg 0x310680a5041a0280 rfl) (by exact jw 0x1041a029448c41a0294a00a91d00621406 rfl hm h6);exact zy 0x40020806204461800618846 rfl MW q1 h7 this
       .clear HB;refine zl (NW u (by exact zup c3) (by exact jw 0x1062a06944828020c540d2892d00628006 rfl h4 c2)) λp' H8 MO Oz=>?_;clear Oz;rw[D0,MO]
        by_cases c4:u=v
        .subst c4;rw[Ec] at H8;cases H8;exact ar _
        .have:=List.pairwise_iff_getElem.mp I8 (u-(sa+k)) (v-(sa+k)) (by exact zyt hm0 lr h4 c2) (by exact zuv hm0 lr c2) (by exact zg 0x20d075488340568038c02318e20d120a00c618006 rfl h4 c3 c4);rw[aC (by (first|exact zuv hm0 lr c2|exact zyt hm0 lr h4 c2))] at Ec H8;rw[<-Hz Ec,<-Hz H8];exact this
      .rw[Pc v (by exact zyp c2)];have q2:Y y<=Rk Y (Hv st) v:=by
        have:=Lo (v-(sa+(k+n1))) (by exact zy 0x107415035000e020e82a5121a00c6 rfl c2) (by exact zy 0x1123150340568020c540d2890500622406 rfl GQ h5);rwa [show sa+(k+n1)+(v-(sa+(k+n1)))=v by exact zES c2] at this
       by_cases c3:u<sa+k
       .rw[Mp u c3];have:=S1 u (sa+(k+n1)-1) h3 (by exact zg 0x918a81a54001068905006 rfl c3) (by exact zuk Fb)
        lia
       .by_cases c4:u<sa+(k+n1)+m
        .refine zl (NW u (by exact zup c3) c4) λp Ec D0 HB=>?_;rw[D0]
         rcases HB with⟨j,h6,h7⟩|⟨j,h6,h7⟩
         .have:=S1 (sa+k+j) (sa+(k+n1)-1) (by exact zc 0x820a5000 rfl) (by exact zg 0x2461a029510414a006915006 rfl h6) (by exact zuk Fb)
          lia
         .have:=Kq j h6;exact zg 0x1000491d0061804608806 rfl q2 h7 this
        .rw[Pc u (by exact zyp c4)];exact S2 u v (by exact zy 0x310680a00e410680a5123a00c6 rfl c4) h4 h5
    .show (uI (sa+k) rl 0 (Hv Cs))[j]? = (Hv st)[j]?;rw[eg j,if_neg (by exact zE8 hm hj)]
    .rw[g.pend,ep]
   split
   .exact Ho (zmC OX GM (by exact zrZ hn0 HF) (by exact zrZ hm0 Js) fin)
   .exact Ho (zmB OX GM (by exact zrZ hn0 HF) (by exact zrZ hm0 Js) fin)
end
noncomputable abbrev Run:=Nat×Nat×Nat
noncomputable def sG(Y:Hw->Nat)(arr:Array Hw):Nat->List Run->Nat->Prop
 | lo,[],hi=>lo=hi
 | lo,p::r,hi=>p.1=lo/\1<=p.2.1/\sQ Y arr lo (lo+p.2.1)/\sG Y arr (lo+p.2.1) r hi
section
variable{Y:Hw->Nat}{arr EA:Array Hw}
theorem sG.len:∀{lo hi:Nat},sG Y arr lo l hi->lo+l.length<=hi:=by
 induction l with
 | nil=>exact λh=>bp h
 | cons p r ih=>exact λh=>(zDJ h.2.1 (ih h.2.2.2):_)
theorem sQ.out(h:sQ Y arr a b)(o:tq arr EA x y)(d:b<=x\/y<=a):sQ Y EA a b:=λi j h1 h2 h3=>by
 have e1:Rk Y EA i=Rk Y arr i:=j5 (o i (zEY d h1 h2 h3));have e2:Rk Y EA j=Rk Y arr j:=j5 (o j (zEZ d h1 h2 h3));rw[e1,e2];exact h i j h1 h2 h3
theorem sG.out(o:tq arr EA x y):∀{lo hi:Nat},sG Y arr lo l hi->(hi<=x\/y<=lo)->sG Y EA lo l hi:=by
 induction l with
 | nil=>exact λh _=>h
 | cons p r ih=>exact λh d=>⟨h.1,h.2.1,h.2.2.1.out o (zE0 d (sG.len h.2.2.2)),ih h.2.2.2 (zEw d)⟩
theorem sG.split:∀{lo hi:Nat},sG Y arr lo (l1++l2) hi->∃m,sG Y arr lo l1 m/\sG Y arr m l2 hi:=by
 induction l1 with
 | nil=>exact λh=>⟨_,rfl,h⟩
 | cons p r ih=>exact λh=>(ih h.2.2.2).imp λm q=>⟨⟨h.1,h.2.1,h.2.2.1,q.1⟩,q.2⟩
theorem sG.join:∀{lo m hi:Nat},sG Y arr lo l1 m->sG Y arr m l2 hi->sG Y arr lo (l1++l2) hi:=by
 induction l1 with
 | nil=>exact λh h'=>(show _=_ from h)▸h'
 | cons p r ih=>exact λh h'=>⟨h.1,h.2.1,h.2.2.1,ih h.2.2.2 h'⟩
theorem sG.congr:∀{l':List Run} {lo hi:Nat},l.map (λp=>(p.1,p.2.1))=l'.map (λp=>(p.1,p.2.1))->sG Y arr lo l hi->sG Y arr lo l' hi:=by
 induction l with
 | nil=>
  intro l' lo hi e h;cases l' with
  | nil=>exact h
  | cons=>exact nomatch e
 | cons p r ih=>
  intro l' lo hi e h;cases l' with
  | nil=>exact nomatch e
  | cons p' r'=>
   have e':=rq e;have e3:(p.1,p.2.1)=(p'.1,p'.2.1):=e'.1;have e1:=(oZ e3).1;have e2:=(oZ e3).2;exact⟨e1▸h.1,e2▸h.2.1,e2▸h.2.2.1,e2▸ih e'.2 h.2.2.2⟩
theorem zpY{V:Type}{l:List V}{x y:V}(h1:l[i]? = ae x)(h2:l[i+1]? = ae y):l=l.take i++x::y::l.drop (i+2):=by
 obtain⟨a1,b1⟩:=List.getElem?_eq_some_iff.mp h1;obtain⟨a2,b2⟩:=List.getElem?_eq_some_iff.mp h2;have e1:l.drop i=x::l.drop (i+1):=by rw[cn a1,b1]
 have e2:l.drop (i+1)=y::l.drop (i+2):=by rw[cn a2,b2]
 rw[<-e2,<-e1,eD]
theorem zrM{V:Type}{l:List V}{x y z:V}(h1:l[i]? = ae x)(h2:l[i+1]? = ae y):(l.set i z).eraseIdx (i+1)=l.take i++z::l.drop (i+2):=by
 have e:=zpY h1 h2;have hi:i<l.length:=(List.getElem?_eq_some_iff.mp h1).1;have hl:(l.take i).length=i:=by simp;exact zxA hi
 conv=>lhs;rw[e]
 rw[List.set_append_right _ _ (by exact zxE hl),hl,gX,List.set_cons_zero,fC (by exact zBg hl),hl,show i+1-i=1 by exact zAu]
 rfl
end
section
variable{prog:Hk}{w:cV}{A:bn}{E:aD->ay->Prop}{s:ay}{a₀:Array Hw}{κ:d4}{Y:Hw->Nat}
theorem zpy(H:qL prog w A s κ Y a₀){st:aQ}(hB:SB κ a₀ st)(hR:sG Y (Hv st) 0 (Hr st).toList hi)(hh:hi<=a₀.size)(OQ:i+1<(Hr st).size)
  (h:∀Cs,SB κ a₀ Cs->sG Y (Hv Cs) 0 (Hr Cs).toList hi->(Hr Cs).size+1=(Hr st).size->tq (Hv st) (Hv Cs) 0 hi->Q ag Cs):mJ (bq prog w) A E s (o9 i) Q st:=by
 obtain⟨⟨sa,na,pw⟩,h1⟩:∃p,(Hr st)[i]? = ae p:=⟨_,getElem?_pos _ i (by exact zgU OQ)⟩
 obtain⟨⟨sb,nb,pw'⟩,h2⟩:∃p,(Hr st)[i+1]? = ae p:=⟨_,getElem?_pos _ (i+1) OQ⟩
 have E2:(Hr st).toList[i]? = ae (sa,na,pw):=by rw[bg];exact h1
 have Er:(Hr st).toList[i+1]? = ae (sb,nb,pw'):=by rw[bg];exact h2
 have e:=zpY E2 Er;rw[e] at hR;refine zhd hR.split λm R1 q0 q1 q2 p0 p1 p2 R2=>?_;simp only at q0 q1 q2 p0 p1 p2 R2;subst q0;subst p0;have CF:=R2.len;refine zmA H hB h1 h2 q1 p1 (zE7 hh CF) q2 p2 λCs M=>?_;have et:(Hr Cs).toList=(Hr st).toList.take i++(sa,na+nb,pw)::(Hr st).toList.drop (i+2):=by
  rw[M.pend,Array.toList_eraseIdxIfInBounds,Array.toList_setIfInBounds,zrM E2 Er]
 refine h Cs M.sb ?_ ?_ (M.out.wide (aE _) (zEo CF))
 .rw[et];refine(R1.out M.out (.inl (ar _))).join (zA rfl (by simp only;exact zua q1) (by rw[<-cJ];exact M.srt) ?_);rw[<-cJ];exact R2.out M.out (.inr (ar _))
 .have l1:=congrArg dH et;have l2:=congrArg dH e;simp only[aN,aq,au] at l1 l2;exact zg 0x520a09291d282a044648e82a0046 rfl l1 l2
end
noncomputable def zyP(sz pw:Nat):StateT aQ lu (ForInStep (Option Unit×Unit)):=do
 let g <-get
 match (if (Hr g).size>1 then (Hr g)[(Hr g).size-2]? else af) with
 | some (_,_,older)=>
  if older<=pw then b9 (.done (af,()))
  else do
   let b <-o9 ((Hr g).size-2)
   if (!b)=ag then b9 (.done (ae (),())) else b9 (.yield (af,()))
 | _=>b9 (.done (af,()))
noncomputable def tR(sz lo n:Nat):StateT aQ lu (ForInStep (Option Unit×Nat)):=do
 let g <-get
 match (Hr g).back? with
 | some (s1,n1,_)=>do
  let r <-iA [0:sz] ((af,()):Option Unit×Unit) λ_ _=>zyP sz (power' sz (2*s1+n1) (2*s1+n1+n1+n) sz)
  match r.1 with
  | some r=>b9 (.done (ae r,lo))
  | none=>do
   modify λs=>gv s ((Hr s).modify ((Hr s).size-1) λ(st,len,_)=>(st,len,power' sz (2*s1+n1) (2*s1+n1+n1+n) sz))
   modify λs=>gv s ((Hr s).push (lo,n,0))
   b9 (.yield (af,lo+n))
 | _=>do
  modify λs=>gv s ((Hr s).push (lo,n,0))
  b9 (.yield (af,lo+n))
noncomputable def oL(sz mr:Nat)(c:Option Unit×Nat):StateT aQ lu (ForInStep (Option Unit×Nat)):=
 if c.2>=sz then b9 (.done (af,c.2))
 else do
  let x <-rP c.2 (sz-c.2)
  match x with
  | some za4=>
   if za4<mr then do
    liftM (sq "list.sort.binary-insertion")
    let b <-binarySort' c.2 (fk (sz-c.2) mr) za4
    if (!b)=ag then b9 (.done (ae (),c.2)) else tR sz c.2 (fk (sz-c.2) mr)
   else tR sz c.2 za4
  | _=>b9 (.done (ae (),c.2))
noncomputable def fL:StateT aQ lu (ForInStep (Option Unit×Unit)):=do
 let g <-get
 if (Hr g).size<=1 then b9 (.done (af,()))
 else do
  let b <-o9 (if Option.any (λx=>decide (x<(Hr g)[(Hr g).size-2+1]?.elim 0 λx=>x.snd.fst)) (if (Hr g).size-2>0 then Option.map (λx=>x.snd.fst) (Hr g)[(Hr g).size-2-1]? else af)=ag then (Hr g).size-2-1 else (Hr g).size-2)
  if (!b)=ag then b9 (.done (ae (),())) else b9 (.yield (af,()))
noncomputable def zvj:StateT aQ lu Unit:=do
 let g <-get
 let r <-iA [0:(Hv g).size] ((af,0):Option Unit×Nat) λ_ c=>oL (Hv g).size (se (Hv g).size (Hv g).size 0) c
 match r.1 with
 | some r=>b9 r
 | none=>do
  let q <-iA [0:(Hv g).size] ((af,()):Option Unit×Unit) λ_ _=>fL
  match q.1 with
  | some r=>b9 r
  | none=>b9 ()
theorem zoP:sortRuns'=zvj:=by kernel_rfl
noncomputable def Cq:Nat:=1000000
section
variable{prog:Hk}{w:cV}{A:bn}{E:aD->ay->Prop}{s:ay}{a₀:Array Hw}{κ:d4}{Y:Hw->Nat}
theorem zvz(H:qL prog w A s κ Y a₀){st:aQ}(hB:SB κ a₀ st){lo n:Nat}(hR:sG Y (Hv st) 0 (Hr st).toList lo)(hn:1<=n)(hs:sQ Y (Hv st) lo (lo+n))(hl:lo+n<=a₀.size){Q:ForInStep (Option Unit×Nat)->aQ->Prop}
  (h:∀Cs,SB κ a₀ Cs->sG Y (Hv Cs) 0 (Hr Cs).toList (lo+n)->Q (.yield (af,lo+n)) Cs):mJ (bq prog w) A E s (tR a₀.size lo n) Q st:=by
 have fin:∀(Cs:aQ),SB κ a₀ Cs->sG Y (Hv Cs) 0 (Hr Cs).toList lo->sQ Y (Hv Cs) lo (lo+n)->Q (.yield (af,lo+n)) (gv Cs ((Hr Cs).push (lo,n,0))):=λCs CB Eb Cz=>by
  refine h _ ⟨CB.perm,CB.kind,CB.failed⟩ ?_;rw[aV];exact Eb.join (zA rfl hn Cz rfl)
 refine Ho (gY ?_);cases hb:(Hr st).back? with
 | none=>exact Ho (gu (Hp (fin st hB hR hs)))
 | some p=>
  obtain⟨s1,n1,pw⟩:=p;generalize power' a₀.size (2*s1+n1) (2*s1+n1+n1+n) a₀.size=pw';refine Ho (Hq (Hs (I:=λx c Cs=>c=(af,())/\SB κ a₀ Cs/\sG Y (Hv Cs) 0 (Hr Cs).toList lo/\sQ Y (Hv Cs) lo (lo+n))
   (Q:=λc Cs=>c=(af,())/\SB κ a₀ Cs/\sG Y (Hv Cs) 0 (Hr Cs).toList lo/\sQ Y (Hv Cs) lo (lo+n)) ?step (λc Cs hh=>hh) (zA rfl hB hR hs)) ?post)
  case step=>
   intro x c Cs _ hx Da;refine zI Da λJb CB Eb Cz=>?_;subst Jb;refine Ho (gY ?_)
   by_cases hsz:(Hr Cs).size>1
   .rw[if_pos hsz];obtain⟨⟨u,v,older⟩,hq⟩:∃p,(Hr Cs)[(Hr Cs).size-2]? = ae p:=⟨_,getElem?_pos _ _ (by exact zd 0x4a815a00094d006 rfl hsz)⟩
    rw[hq];dsimp only;split
    .exact Hp (zA rfl CB Eb Cz)
    .refine Ho (zpy H CB Eb (zCl hl) (zz9 hsz) λCw Nb NR _ ho=>?_);exact Hp (zA rfl Nb NR (Cz.out ho (.inr (ar _))))
   .rw[if_neg hsz];exact Hp (zA rfl CB Eb Cz)
  case post=>
   intro c Cs CY;refine zI CY λJ6 CB Eb Cz=>?_;subst J6;refine Ho (gu (Ho (gu (Hp ?_))));refine fin (gv Cs _) ⟨CB.perm,CB.kind,CB.failed⟩ ?_ Cz;refine sG.congr ?_ Eb;rw[mS];apply fV;intro j;simp only[bQ,List.getElem?_modify];split<;>cases (Hr Cs).toList[j]?<;>rfl
theorem zeP(H:qL prog w A s κ Y a₀){st:aQ}(hB:SB κ a₀ st)(hp:Hr st = #[])(h2:2<=a₀.size)(M6:a₀.size<=Cq)
  (h:∀Cs,SB κ a₀ Cs->sQ Y (Hv Cs) 0 a₀.size->Q () Cs):mJ (bq prog w) A E s sortRuns' Q st:=by
 rw[zoP];refine Ho (gY ?_);simp only[hB.size];have Mj:1<=se a₀.size a₀.size 0:=by
  have Dj:∀f n r,1<=n->1<=se f n r:=by
   intro f
   induction f with
   | zero=>intro n r hn;exact zua hn
   | succ f ih=>
    intro n r hn;rw[minRun'_succ];split
    .exact zua hn
    .exact ih _ _ (by lia)
  exact Dj _ _ _ (zt1 h2)
 generalize se a₀.size a₀.size 0=mr at Mj;refine Ho (Hq (Hs (I:=λx c Cs=>∃lo,c=(af,lo)/\SB κ a₀ Cs/\sG Y (Hv Cs) 0 (Hr Cs).toList lo/\lo<=a₀.size/\fk x a₀.size<=lo)
  (Q:=λc Cs=>c=(af,a₀.size)/\SB κ a₀ Cs/\sG Y (Hv Cs) 0 (Hr Cs).toList a₀.size) ?step ?fin (zec 0 rfl hB (by rw[hp];rfl) (aE _) zAz)) ?post)
 case fin=>
  intro c Cs DN;refine zhc DN λlo Fq CB Eb hl hx=>?_;subst Fq;have:lo=a₀.size:=zBp hl hx;subst this;exact zu rfl CB Eb
 case step=>
  intro x c Cs _ hx DZ;refine zhc DZ λlo Dy CB Eb hl P0=>?_;subst Dy;unfold oL;dsimp only
  by_cases CR:lo>=a₀.size
  .rw[if_pos CR];have:lo=a₀.size:=zuf hl CR;subst this;exact Hp (zu rfl CB Eb)
  .rw[if_neg CR];refine Ho (zjM H (zBM CR) (zBO CR) CB λm Cy R=>?_);dsimp only;have CY:sG Y (Hv Cy) 0 (Hr Cy).toList lo:=by rw[R.pend];exact Eb.out R.out (.inl (ar _))
   have hm:=R.le;have DF:=R.m1;split
   .rename_i Cu
    refine Ho (lj (He ⟨rfl,?_⟩));refine Ho (zgA H (n:=fk (a₀.size-lo) mr) (zut hm DF) (zyf Mj hm DF) (zDW hm Cu) R.sb R.srt λCI R3=>?_);simp only[iF,aT,if_false];have DN:sG Y (Hv CI) 0 (Hr CI).toList lo:=by rw[R3.pend];exact CY.out R3.out (.inl (ar _))
    exact zvz H R3.sb DN (zyf Mj hm DF) R3.srt (zut hm DF) λCZ NC DZ=>(zec _ rfl NC DZ (zut hm DF) (zDK Mj P0))
   .exact zvz H R.sb CY DF R.srt (zx3 hm DF) λCZ NC DZ=>(zec _ rfl NC DZ (zx3 hm DF) (zDt P0 DF))
 case post=>
  intro c Cs Ez;refine jg Ez λIt CB Eb=>?_;subst It;refine Ho (Hq (Hs (I:=λx c Cw=>c=(af,())/\SB κ a₀ Cw/\sG Y (Hv Cw) 0 (Hr Cw).toList a₀.size/\(Hr Cw).size<=fF 1 (a₀.size-x))
   (Q:=λc Cw=>c=(af,())/\SB κ a₀ Cw/\sG Y (Hv Cw) 0 (Hr Cw).toList a₀.size/\(Hr Cw).size<=1) ?step2 ?fin2 (zA rfl CB Eb (by have:=Eb.len;simp at this;lia))) ?post2)
  case fin2=>
   intro c Cw Fn;refine zI Fn λNL Jt CY hsz=>?_;subst NL;exact zA rfl Jt CY (zBk hsz)
  case step2=>
   intro x c Cw _ hx Fy;refine zI Fy λKl Jt CY hsz=>?_;subst Kl;refine Ho (gY ?_)
   by_cases h1:(Hr Cw).size<=1
   .rw[if_pos h1];exact Hp (zA rfl Jt CY h1)
   .rw[if_neg h1];refine Ho (zpy H Jt CY (ar _) ?_ λCI Qe DN RC _=>?_)
    .have Dj:∀(c:Bool) (n:Nat),2<=n->(if c=ag then n-2-1 else n-2)+1<n:=λc n hn=>by cases c<;>simp<;>(first|exact zd 0x4a540ad28002806 rfl hn|exact zd 0x1294a815ad28002806 rfl hn)
     exact Dj _ _ (zAp h1)
    .exact Hp (zA rfl Qe DN (zEg hsz RC))
  case post2=>
   intro c Cw LP;refine zI LP λKd Jt CY hsz=>?_;subst Kd;refine Hp (h Cw Jt ?_);have hl:(Hr Cw).toList.length<=1:=by simpa using hsz
   generalize (Hr Cw).toList=l at CY hl
   match l,CY,hl with
   | [],CY,_=>have:0=a₀.size:=CY;lia
   | [p],⟨_,_,h3,h4⟩,_=>
    have:0+p.2.1=a₀.size:=h4;rw[this] at h3;exact h3
   | _::_::_,_,hl=>simp at hl
end
theorem zgX{vs:List aD}{out:Array Hw}(h:out.Perm (vs.toArray.zip vs.toArray)):(out.map (·.2)).toList.Perm vs/\∀p∈out.toList,p.1=p.2:=by
 have h':=Array.perm_iff_toList_perm.mp h;have e:(vs.toArray.zip vs.toArray).toList=vs.zip vs:=by simp
 rw[e] at h';have z:∀(l:List aD),(l.zip l).map (·.2)=l/\∀p∈l.zip l,p.1=p.2:=by
  intro l
  induction l with
  | nil=>exact⟨rfl,λp hp=>by simp at hp⟩
  | cons x l ih=>exact⟨by simp[ih.1],λp hp=>by
    rcases List.mem_cons.mp hp with e|hp
    .rw[e]
    .exact ih.2 p hp⟩
 refine⟨?_,λp hp=>(z vs).2 p (h'.mem_iff.mp hp)⟩;have:=h'.map (·.2);rw[(z vs).1] at this
 simpa using this
section
variable{prog:Hk}{w:cV}{A:bn}{E:aD->ay->Prop}{s:ay}
theorem zjN{vs:List aD}{P:PySem.Fin->ay->Prop}(Y:aD->Nat)(ho:s.heap.get? a=ae (Hx "list" vs.toArray n))(Ct:vs.length<=1000000)(M6:vs.length<=Cq)
  (hk:∀h':cI,(∀b o,b≠a->s.heap.get? b=ae o->h'.get? b=ae o)->2<=vs.length->∃κ,(∀(Q:d4->ay->Prop),Q κ { s with heap:=h' }->aI (bq prog w) A (keyKind' vs.toArray) Q E { s with heap:=h' })/\
   qL prog w A { s with heap:=h' } κ (λp=>Y p.1) (vs.toArray.zip vs.toArray))
  (h:∀(out:List aD) c (h3:cI),out.Perm vs->out.Pairwise (λx y=>Y x<=Y y)->h3.get? a=ae (Hx "list" out.toArray c)->(∀b o,b≠a->s.heap.get? b=ae o->h3.get? b=ae o)->P (.done (.ret .none)) { s with heap:=h3 }) :
  aI (bq prog w) A (dM.«list.sort» ⟨[.ref a],[]⟩) P E s:=by
 obtain⟨e1,D7⟩:∃e1,(s.heap.update a (aX λ_=>(#[]:Array aD))).get? a=ae (Hx "list" #[] e1):=⟨_,Hy ho λ_=>#[]⟩
 have s1:=bB s.heap a (aX λ_=>(#[]:Array aD));obtain⟨h2,xV⟩:∃x,x=((s.heap.update a (aX λ_=>(#[]:Array aD))).push (Hx "tuple" vs.toArray 0)).push (Hx "list" #[] 0):=⟨_,rfl⟩
 have HH:∀b o,b≠a->s.heap.get? b=ae o->h2.get? b=ae o:=λb o hb e=>by
  rw[xV];exact az _ (az _ ((s1.2 b hb).trans e))
 have Em:h2.get? a=ae (Hx "list" #[] e1):=by rw[xV];exact az _ (az _ D7)
 rw[list_sort_plain];refine G9 (Hu ho rfl ?_);refine G9 (Ht ho rfl ?_ (by rw[aK,Hd];exact zgT Ct) (aE _));refine G9 (mE D7 rfl ?_);refine G9 (wpAny_newTuple ?_ (by show vs.length<=_;rw[Hd];exact zgT Ct));refine G9 (Hh ?_ (aE _));refine Hc ?_;rw[<-xV];have CC:∀Cs:aQ,(Hv Cs).Perm (vs.toArray.zip vs.toArray)->dY Cs=af->(Hv Cs).toList.Pairwise (λx y=>Y x.1<=Y y.1)->aI (bq prog w) A (do
   let touched:=(<-seqEpoch a) != e1
   Builtin.List.listUpdate (.ref a) λ_=>(Hv Cs).map (·.2)
   if let ae e:=dY Cs then sq "list.sort.comparison-raised";throw e
   if touched then sq "list.sort.modified";raiseError "ValueError" "list modified during sort"
   ret .none) P E { s with heap:=h2 }:=by
  intro Cs hp hf hs;obtain⟨z1,z2⟩:=zgX hp;have hl:=z1.length_eq;obtain⟨c2,Ep⟩:∃c2,(h2.update a (aX λ_=>(Hv Cs).map (·.2))).get? a=ae (Hx "list" ((Hv Cs).map (·.2)) c2):=⟨_,Hy Em λ_=>(Hv Cs).map (·.2)⟩
  have s2:=bB h2 a (aX λ_=>(Hv Cs).map (·.2));refine G9 (mE Em rfl ?_);refine G9 (Ht Em rfl ?_ (aE _) (by
   have:((Hv Cs).map (·.2)).size=vs.length:=by rw[<-hl];simp
   rw[this,Hd];exact zd 0x90000000010000009d000f424090006 rfl Ct))
  rw[hf];simp only[bne_self_eq_false,aT,if_false];refine Ha (h ((Hv Cs).map (·.2)).toList c2 _ z1 ?_ (by rw[Ep]) λb o hb e=>(s2.2 b hb).trans (HH b o hb e));rw[lq,fW];exact hs.imp_of_mem λ{x y} hx hy hxy=>by rw[<-z2 x hx,<-z2 y hy];exact hxy
 by_cases hn:vs.length<2
 .have DL:vs.toArray.size<2:=by rw[aK];exact hn
  rw[if_pos DL,if_pos DL];refine G9 (Ha ?_);refine G9 (Ha (CC (lL general' (vs.toArray.zip vs.toArray) #[] 7 af) (.refl _) rfl ?_));have:(vs.toArray.zip vs.toArray).toList.length<2:=by simp;exact zd 0x2920a014905006 rfl hn
  generalize (vs.toArray.zip vs.toArray).toList=l at this
  match l,this with
  | [],_=>exact .nil
  | [x],_=>exact d8 _ _
  | _::_::_,h=>simp only[au] at h;lia
 .have DL:¬vs.toArray.size<2:=by rw[aK];exact hn
  rw[if_neg DL,if_neg DL];refine za (hk h2 HH (zxe hn)) λκ hq H=>G9 (hq _ ?_);have hB:SB κ (vs.toArray.zip vs.toArray) (lL κ (vs.toArray.zip vs.toArray) #[] 7 af):=⟨.refl _,rfl,rfl⟩
  have run:=zeP (E:=E) (Q:=λ_ Cs=>(Hv Cs).Perm (vs.toArray.zip vs.toArray)/\dY Cs=af/\(Hv Cs).toList.Pairwise (λx y=>Y x.1<=Y y.1)) H hB rfl (by simp;exact zxe hn) (by simpa using M6) λCs CB hs=>(zu CB.perm CB.failed (by
   have:=CB.size;exact j8 (Y:=λp=>Y p.1) (by rw[this];exact hs)))
  refine G9 (Hb run (λr s' hr=>?_) λ_ _ e=>e);obtain⟨⟨⟩,Cs⟩:=r;refine zI hr λHP hp hf hs=>?_;subst HP;exact CC Cs hp hf hs
theorem zl3(xs):∀(ys:List eA) {vs ws:List aD} {as bs:List aH} {fin:Bool} {i:Nat},fJ s.heap vs xs as->fJ s.heap ws ys bs->cL xs=ag->cL ys=ag->A.units+2*bf xs+10<f6->
  fin=decide (xs.length<ys.length)->(i=0->b=ag->∀x y,xs.head? = ae x->ys.head? = ae y->(∃u v,x = .int u/\y = .int v)\/∃u v,x = .str u/\y = .str v)->uq xs ys=ae t->Q t s->KatLex prog w A b fin Q (vs.zip ws) i s:=by
 induction xs with
 | nil=>
  intro ys vs ws as bs fin i rx ry ha hb hu hf hi e q;rw[j1 rx];have e1:t=fin:=Hz (e.symm.trans (show uq [] ys=ae fin by rw[hf];cases ys<;>rfl));exact kat_nil (e1▸q)
 | cons x xs ih=>
  intro ys vs ws as bs fin i rx ry ha hb hu hf hi e q;refine kl (jG rx) λ_ _ _ _ z1 h1 h2=>?_;rw[z1];cases ys with
  | nil=>rw[j1 ry];exact kat_nil ((Hz e).symm.trans hf.symm▸q)
  | cons y ys=>
   refine kl (jG ry) λ_ _ _ _ z1 k1 k2=>?_;rw[z1];have ha:=(bx _ _).mp ha;have hb:=(bx _ _).mp hb;have hu:A.units+2*fF x.depth (bf xs)+10<f6:=hu;have Jm:=lD x y A s _ _ _ _ h1 k1 ha.1 hb.1 (zym hu);rw[q9] at e;refine kat_cons (Jm prog w _ _ ?_);cases hE:aU x y with
   | true=>
    rw[hE] at e;exact kat_yes (ih ys h2 k2 ha.2 hb.2 (zyc hu) (hf.trans (decide_eq_decide.mpr mn)) (λh0=>nomatch h0) e q)
   | false=>
    rw[hE] at e;refine kat_no ?_;cases HI:(b&&i==0) with
    | false=>
     rw[oneLt'_eq];exact G9 (zhG x y h1 k1 ha.1 hb.1 (zyb hu) e prog w _ _ (cx q))
    | true=>
     have HI:=(bx _ _).mp HI
     rcases hi (beq_iff_eq.mp HI.2) HI.1 x y rfl rfl with h|h
     .refine z9 h λu u' f1 f2=>?_;subst f1 f2;refine zQ (zbs h1) λ_ z1=>zQ (zbs k1) λ_ z2=>?_;rw[z1,z2];exact oneLt_int ((Hz e).symm▸q)
     .refine z9 h λu u' f1 f2=>?_;subst f1 f2;refine zQ (zbt h1) λ_ z1=>zQ (zbt k1) λ_ z2=>?_;rw[z1,z2];exact oneLt_str ((Hz e).symm▸q)
end
theorem zy7{a b:Nat}(h:a<b↔b<a):a=b:=fh (Nat.not_lt.mp λl=>sf l (h.mpr l)) (Nat.not_lt.mp λl=>sf l (h.mp l))
theorem zbY(r:sw U h xs (v::vs)):∃x IR,xs=x::IR/\sv U h x v/\sw U h IR vs:=by
 cases r with
 | cons a r=>exact zP _ _ rfl a r
theorem sw.perm(p:ws.Perm vs):∀{xs},sw U h xs vs->∃ys,ys.Perm xs/\sw U h ys ws:=by
 induction p with
 | nil=>intro xs r;exact⟨xs,.refl _,r⟩
 | cons v p ih=>
  intro xs r;obtain⟨x,IR,rfl,a,r⟩:=zbY r;obtain⟨ys,h1,h2⟩:=ih r;exact⟨x::ys,.cons x h1,.cons a h2⟩
 | swap v w l=>
  intro xs r;obtain⟨x,IR,rfl,a,r⟩:=zbY r;obtain⟨y,xs'',rfl,b,r⟩:=zbY r;exact⟨y::x::xs'',.swap ..,.cons b (.cons a r)⟩
 | trans p q ih1 ih2=>
  intro xs r;exact za (ih2 r) λys h1 h2=>za (ih1 h2) λzs h3 h4=>zf zs (h3.trans h1) h4
theorem sw.pair{Y:AV->Nat}{YV:aD->Nat}:∀{out:List aD},sw U h ys out->(∀y∈ys,∀v,sv U h y v->YV v=Y y)->out.Pairwise (λx y=>YV x<=YV y)->ys.Pairwise (λx y=>Y x<=Y y):=by
 induction ys with
 | nil=>intro out _ _ _;exact .nil
 | cons x ys ih=>
  intro out r hρ hp;obtain⟨v,vs,rfl,a,r⟩:=sw.wF r;obtain⟨h1,h2⟩:=List.pairwise_cons.mp hp;refine List.pairwise_cons.mpr ⟨λy hy=>?_,ih r (λy hy=>hρ y (al _ hy)) h2⟩;obtain⟨i,hi⟩:=List.mem_iff_getElem?.mp hy;obtain⟨w,hw,tI⟩:=r.get hi;have:=h1 w (bX hw);rw[hρ x aj v a,hρ y (al _ hy) w tI] at this;exact this
theorem zeh:∀{vs:List aD},sw U h xs vs->(∀x∈xs,∃y r,x = .tup (y::r)/\∀v,sv U h y v->Looks M h (pZ v) T)->∃fs,KatTups h vs fs/\fs.length=vs.length/\∀v∈fs,Looks M h (pZ v) T:=by
 induction xs with
 | nil=>intro vs r _;obtain rfl:=sw.wG r;exact⟨[],.nil,rfl,λv hv=>nomatch hv⟩
 | cons x xs ih=>
  intro vs r hx;cases r with
  | @cons _ _ v vs a r=>
  refine zl (ih r λx hx'=>hx x (al _ hx')) λfs h1 h2 h3=>z9 (hx x aj) λy ys DT hl=>?_;subst DT;refine zj (sv.wI a) λt ws D6 Ct ht rs=>?_;subst D6;refine jJ ht λo ho hc n hd=>zm (sw.wF rs) λu us FF ru rus=>?_;subst FF;exact zz (u::fs) (.cons ho hc hd rfl h1) (by simp[h2]) (λw hw=>by
   rcases List.mem_cons.mp hw with e|hw
   .subst e;exact hl w ru
   .exact h3 w hw)
theorem zcA:∀{z:List aD} {as:List aH},fJ h z ds as->z.length=ds.length:=by
 induction ds with
 | nil=>exact λr=>by rw[j1 r];rfl
 | cons d ds ih=>exact λr=>kl (jG r) λ_ _ _ _ z _ r=>by rw[z];exact congrArg (· + 1) (ih r)
theorem zle{X:Cx}{U:su}{s:ay}{A:bn}{x y:AV}{v1 v2:aD}{t:Bool}{Q:Bool->ay->Prop}{E:aD->ay->Prop}(a:At X U s)(hu:A.units+2000<f6)(rx:sv U s.heap x v1)(ry:sv U s.heap y v2)
  (hx:∃i r,x = .tup (.int i::r))(hy:∃i r,y = .tup (.int i::r))(Cu:uE (sC U) x y t)(hQ:Q t s):aI X.M A (keyLt' (pI ag) v1 v2) Q E s:=by
 refine zv Cu λda db ra rb oa ob el=>?_;obtain⟨⟨as1,q1⟩,c1⟩:=ra.reads a rx;obtain⟨⟨as2,q2⟩,c2⟩:=rb.reads a ry;refine z0 hx λi r Di=>?_;subst Di;refine z0 hy λj r' Dk=>?_;subst Dk;refine za (Rd.wI ra) λds II QY=>?_;subst II;refine za (Rd.wI rb) λes Fq Qd=>?_;subst Fq;cases q1 with
 | tuple D7 hc1 Dd EQ=>
  cases q2 with
  | tuple Em Ep Ei Fa=>
   have c3:bf ds+1<=100:=oa;simp only[bU] at c1 c2;simp only[zcq,zoL,zem] at el;refine kat_lt D7 Dd Em Ei (zl3 ds es EQ Fa c1 c2 (zCe hu c3) (by rw[<-zcA EQ,<-zcA Fa];simp) (λ_ _ u v hu hv=>?_) el hQ);refine zm (tD.wF QY) λd1 ds1 z1 g1 g2=>?_;subst z1;refine zm (tD.wF Qd) λd2 ds2 z2 g3 g4=>?_;subst z2;exact .inl (zaE _ _ ((Hz hu).symm.trans (Rd.wC g1)) ((Hz hv).symm.trans (Rd.wC g3)))
theorem zkH{X:Cx}{Uv U:su}{s:ay}{A:bn}{x y:AV}{v1 v2:aD}{t:Bool}{Q:Bool->ay->Prop}{E:aD->ay->Prop}{h:cI}(rx:sv U h x v1)(ry:sv U h y v2)(hx:∃i,x = .int i)(hy:∃i,y = .int i)(Cu:uE Uv x y t)(hQ:Q t s):aI X.M A (keyLt' rc v1 v2) Q E s:=by
 obtain⟨i,ei⟩:=hx;obtain⟨j,ej⟩:=hy;subst ei ej;refine zv Cu λda db ra rb oa ob el=>?_;obtain rfl:=Rd.wC ra;obtain rfl:=Rd.wC rb;simp only[zcq,zoL,zem,nJ] at el;rw[<-el] at hQ;obtain⟨_,rfl⟩:=sv.wC rx;obtain⟨_,rfl⟩:=sv.wC ry;rw[keyLt'_oneType];exact oneLt_int hQ
open Classical in
theorem zfB{X:Cx}{U:su}{s:ay}(a:At X U s){xs:List AV}{key:AV->AV}{Y:AV->Nat}(Cu:∀x∈xs,∀y∈xs,uE (sC U) (key x) (key y) (decide (Y x<Y y))):∃YV:aD->Nat,∀x∈xs,∀v,sv U s.heap (key x) v->YV v=Y x:=by
 have Rx:∀x∈xs,∀y∈xs,∀v,sv U s.heap (key x) v->sv U s.heap (key y) v->Y x=Y y:=λx hx y hy v rx ry=>by
  refine zv (Cu x hx y hy) λa1 b1 h1 h2 k1 k2 e1=>zv (Cu y hy x hx) λa2 b2 h3 h4 k3 k4 e2=>?_;obtain⟨⟨_,q1⟩,cl⟩:=h1.reads a rx;obtain⟨⟨_,q2⟩,_⟩:=h2.reads a ry;obtain⟨⟨_,q3⟩,_⟩:=h3.reads a ry;obtain⟨⟨_,q4⟩,_⟩:=h4.reads a rx;have d1:=fg _ _ _ _ _ cl q1 q2;have d2:=fg _ _ _ _ _ cl q1 q3;have d3:=fg _ _ _ _ _ cl q1 q4;subst d1;subst d2;subst d3;rw[e1] at e2;exact zy7 (decide_eq_decide.mp (Hz e2))
 refine⟨λv=>if h:∃x,x∈xs/\sv U s.heap (key x) v then Y (choose h) else 0,λx hx v rx=>?_⟩;have h:∃x,x∈xs/\sv U s.heap (key x) v:=(zf x hx rx)
 simp only[dif_pos h];exact Rx _ (choose_spec h).1 x hx v (choose_spec h).2 rx
theorem zgK{X:Cx}:jc X (.builtin "sorted") xw:=λd A U s rr as vs Q E L a r q=>by
 refine za (jt q) λx0 K5 q=>?_;subst K5;refine za (zh q) λxs Fv q=>?_;unfold xL at q
 .refine za (qf r) λv Kc rv=>?_;subst Kc;refine zl q λY Lc Cu q=>zv (a.isList (zZ Fv) rv) λp vs LL hp hl rs hm=>?_;subst LL;have Ct:=rs.length;have room:=L.room;obtain⟨YV,hρV⟩:=zfB (key:=λx=>x) a Cu;refine zO (Calls.call_function_entry kind_sorted plain_sorted entry_sorted (args_sorted1 _) ?_);unfold dM.«sorted»;refine G9 (m:=checkCount "sorted" 1 1 _) (Ha ?_);refine G9 (collect_list hl ?_ (by rw[Hd];exact zgW hm Ct));refine G9 (Hh ?_ (by rw[Hd];exact zgW hm Ct));have hsz:((s.heap.push (Hx "list" #[] 0)).update s.heap.objs.size (aX (·++vs.toArray))).objs.size=s.heap.objs.size+1:=by
   rw[eZ,ij]
  obtain⟨h1,vo⟩:∃x,x=((s.heap.push (Hx "list" #[] 0)).update s.heap.objs.size (aX (·++vs.toArray))).push (Hx "list" vs.toArray 0):=⟨_,rfl⟩
  have uf:h1.get? (s.heap.objs.size+1)=ae (Hx "list" vs.toArray 0):=by
   rw[vo,<-hsz];exact aM _ rfl
  have keep:∀b o,s.heap.get? b=ae o->h1.get? b=ae o:=λb o q=>by
   have Cu:b<s.heap.objs.size:=aO q;rw[vo,fX _ _ _ (by rw[hsz];exact bl (eH Cu)),mV _ _ _ _ (bl Cu),fX _ _ _ (bl Cu)];exact q
  show aI _ _ _ _ _ { s with heap:=((s.heap.push (Hx "list" #[] 0)).update s.heap.objs.size (aX (·++vs.toArray))).push (Hx "list" vs.toArray 0) };rw[hsz,<-vo];have HK:∀h':cI,(∀b o,b≠s.heap.objs.size+1->h1.get? b=ae o->h'.get? b=ae o)->∀b o,s.heap.get? b=ae o->h'.get? b=ae o:=λh' hk b o e=>by
   have Cu:b<s.heap.objs.size:=ltA e;exact hk b o (bl (eH Cu)) (keep b o e)
  refine G9 (Hc (Hg slot_list_sort (zf _ uf rfl) pC ?body (args_list_sort _)))
  case body=>
   refine zjN (s:={ s with heap:=h1 }) YV uf (zxM hm Ct) (by rw[<-Ct];exact hm) (λh' CO h2=>?_) λout c h3 Fw Ny NJ Ld=>?_
   .have kp:=HK h' CO;have kv:sA U s.heap U h':=.ext kp;have a':At X U { s with heap:=h' }:=a.grown s.toks kp;have DS:=rs.mono kv;have mz:∀z,z∈(vs.toArray.zip vs.toArray).toList->z.1∈vs:=λz hz=>by
     have:z∈vs.zip vs:=by simpa using hz
     exact(gL this).1
    rcases Lc with Lc|hki
    case inr=>
     refine zf rc (λQ' hq=>?_) (λp' q' CN GZ Q' E' hQ=>?_)
     .refine kas_kind (s:={ s with heap:=h' }) (vs:=vs) (T:=.type "int") (zt2 h2) (λv hv=>?_) (by decide) (by decide) hq;refine za (DS.mem v hv) λx hx rx=>?_;obtain⟨i,rfl⟩:=hki x hx;obtain⟨_,rfl⟩:=sv.wC rx;exact .now
     .exact za (rs.mem p'.1 (mz p' CN)) λx hx rx=>za (rs.mem q'.1 (mz q' GZ)) λy hy ry=>zkH rx ry (hki x hx) (hki y hy) (Cu x hx y hy) (by rw[<-hρV x hx _ rx,<-hρV y hy _ ry];exact hQ)
    have QT:∀x∈xs,∃y r,x = .tup (y::r)/\∀v,sv U h' y v->Looks X.M h' (pZ v) (.type "int"):=λx hx=>by
     refine z0 (Lc x hx) λi r Kr=>?_;subst Kr;refine zaE _ r rfl (λv rv=>?_);obtain⟨_,rfl⟩:=sv.wC rv;exact .now
    refine zl (zeh (M:=X.M) DS QT) λfs f1 f2 f3=>zf (pI ag) (λQ' hq=>?_) (λp' q' CN GZ Q' E' hQ=>?_)
    .exact kat_kind (s:={ s with heap:=h' }) f1 (zA8 h2 f2) f3 (by decide) hq
    .refine za (rs.mem p'.1 (mz p' CN)) λx hx rx=>za (rs.mem q'.1 (mz q' GZ)) λy hy ry=>?_;have hQ:Q' (decide (Y x<Y y)) { s with heap:=h' }:=by rw[<-hρV x hx _ rx,<-hρV y hy _ ry];exact hQ
     have PV:=rx.mono kv;have QV:=ry.mono kv;exact zle a' (by rw[dR,dR];exact zb 0x5200fa124a414a52800a402ee240a5006 rfl room) PV QV (Lc x hx) (Lc y hy) (Cu x hx y hy) hQ
   .have kp:=HK h3 Ld;have kv:sA U s.heap U h3:=.ext kp;refine za (rs.perm Fw) λys HT JT=>?_;have NM:ys.Pairwise λx y=>Y x<=Y y:=JT.pair (λy hy v rv=>hρV y (HT.mem_iff.mp hy) v rv) Ny;refine zf _ rfl (Ha (zf _ rfl (λIo=>?_)));exact zcW (t:=s.toks) a kp (cG _) NJ (JT.mono kv) (by rw[HT.length_eq];exact hm) Io (q ys HT NM)
inductive tj{V β:Type}(R:V->β->Prop):List V->List β->Prop
 | nil:tj R [] []
 | cons {a:V} {b:β} {as:List V} {bs:List β}:R a b->tj R as bs->tj R (a::as) (b::bs)
theorem tj.perm{V β:Type}{R:V->β->Prop}{bs cs:List β}(p:cs.Perm bs):∀{as:List V},tj R as bs->∃ds:List V,ds.Perm as/\tj R ds cs:=by
 induction p with
 | nil=>intro as h;exact⟨as,.refl _,h⟩
 | cons b p ih=>
  intro as h;cases h with
  | @cons a _ as' _ h1 h2=>
   exact za (ih h2) λds h3 h4=>⟨a::ds,.cons a h3,.cons h1 h4⟩
 | swap b c l=>
  intro as h;cases h with
  | @cons a _ as' _ h1 h2=>
   cases h2 with
   | @cons a' _ as' _ h3 h4=>exact⟨a'::a::as',.swap ..,.cons h3 (.cons h1 h4)⟩
 | trans p q ih1 ih2=>
  intro as h;exact za (ih2 h) λds h1 h2=>za (ih1 h2) λes h3 h4=>zf es (h3.trans h1) h4
theorem tj.mem2{V β:Type}{R:V->β->Prop}:∀{as:List V} {bs:List β},tj R as bs->∀b∈bs,∃a∈as,R a b:=by
 intro as bs h
 induction h with
 | nil=>intro b hb;cases hb
 | cons h1 h2 ih=>
  intro b hb
  rcases List.mem_cons.mp hb with e|hb
  .subst e;exact zf _ aj h1
  .exact za (ih b hb) λa ha hr=>zf a (al _ ha) hr
theorem tj.pair{V β:Type}{R:V->β->Prop}{f:V->Nat}{g:β->Nat}:∀{as:List V} {bs:List β},tj R as bs->(∀a∈as,∀b,R a b->g b=f a)->bs.Pairwise (λx y=>g x<=g y)->as.Pairwise (λx y=>f x<=f y):=by
 intro as bs h
 induction h with
 | nil=>intro _ _;exact .nil
 | cons h1 h2 ih=>
  intro he hp;cases hp with
  | cons p1 p2=>
   refine .cons (λb hb=>?_) (ih (λa ha=>he a (al _ ha)) p2);have:∀{as bs},tj R as bs->∀a∈as,∃b∈bs,R a b:=by
    intro as bs h
    induction h with
    | nil=>intro b hb;cases hb
    | cons h1 h2 ih=>
     intro b hb
     rcases List.mem_cons.mp hb with e|hb
     .subst e;exact zf _ aj h1
     .exact za (ih b hb) λa ha hr=>zf a (al _ ha) hr
   refine za (this h2 b hb) λc hc hr=>?_;have:=p1 c hc;rw[he _ aj _ h1,he b (al _ hb) c hr] at this;exact this
theorem zp8:∀{xs:List AV} {vs ks:List aD},sw U h xs vs->sw U h (xs.map key) ks->tj (λx (p:Hw)=>sv U h x p.2/\sv U h (key x) p.1) xs (ks.zip vs):=by
 intro xs
 induction xs with
 | nil=>intro vs ks h1 h2;obtain rfl:=sw.wG h1;cases h2;exact .nil
 | cons x xs ih=>
  intro vs ks h1 h2;cases h1 with
  | cons a1 r1=>cases h2 with|cons a2 r2=>exact .cons ⟨a1,a2⟩ (ih r1 r2)
theorem znr{key:AV->AV}:∀{xs:List AV} {ps:List Hw},tj (λx (p:Hw)=>sv U h x p.2/\sv U h (key x) p.1) xs ps->sw U h xs (ps.map (·.2)):=by
 intro xs ps h
 induction h with
 | nil=>exact .nil
 | cons h1 h2 ih=>exact .cons h1.1 ih
def Cp(X:Cx)(kf:aD)(Uv:su)(A:bn)(x k:AV):Prop:=∀U s v,sC U=Uv->At X U s->sv U s.heap x v->aI X.M A (eP kf [v] []) (sB X U s λk' U'=>k'=k/\U'=Uv) (λ_ _=>False) s
theorem ztK{V:Type}{R:V->V->Prop}{l:List V}(h:l.length<2):l.Pairwise R:=by
 cases l with
 | nil=>exact .nil
 | cons x l=>cases l with|nil=>exact d8 _ _|cons y l=>exact absurd h (Nat.not_lt.mpr (b6 (b6 (aE _))))
theorem zqS{A:bn}{key:AV->AV}{Y:AV->Nat}{YK:aD->Nat}{kA:Array aD}{vs:List aD}{E:aD->ay->Prop}(a:At X U s)(hu:A.units+2000<f6)(z:tj (λx (p:Hw)=>sv U s.heap x p.2/\sv U s.heap (key x) p.1) xs (kA.zip vs.toArray).toList)(rk:sw U s.heap (xs.map key) kA.toList)(h3:2<=kA.size)(kd:y8 (xs.map key))(Cu:∀x∈xs,∀y∈xs,uE (sC U) (key x) (key y) (decide (Y x<Y y)))(hρ:∀x∈xs,∀k,sv U s.heap (key x) k->YK k=Y x) :
  ∃κ,qL X.prog X.w A s κ (λp=>YK p.1) (kA.zip vs.toArray)/\aI X.M A (keyKind' kA) (λκ' s''=>κ'=κ/\s''=s) E s:=by
 have pr:∀{p q:Hw},p∈(kA.zip vs.toArray).toList->q∈(kA.zip vs.toArray).toList->∃x y,(x∈xs/\y∈xs)/\(sv U s.heap (key x) p.1/\sv U s.heap (key y) q.1)/\YK p.1=Y x/\YK q.1=Y y:=λ{p q} hp hq=>by
  exact za (z.mem2 p hp) λx hx rx=>za (z.mem2 q hq) λy hy ry=>⟨x,y,⟨hx,hy⟩,⟨rx.2,ry.2⟩,hρ x hx _ rx.2,hρ y hy _ ry.2⟩
 rcases kd with kd|kd
 .have kd:∀x∈xs,∃i r,key x = .tup (.int i::r):=λx hx=>kd _ (b8 hx);obtain⟨fs,f1,f2,f3⟩:=zeh (M:=X.M) (T:=.type "int") rk (λx hx=>by
   refine za (List.mem_map.mp hx) λy hy F8=>?_;subst F8;refine z0 (kd y hy) λi r e=>zaE _ r e (λv rv=>?_);obtain⟨_,rfl⟩:=sv.wC rv;exact .now)
  refine zf (pI ag) (λp' q' CN GZ Q' E' hQ=>?_) ?_
  .obtain⟨x,y,⟨hx,hy⟩,⟨rx,ry⟩,e1,e2⟩:=pr CN GZ;exact zle a hu rx ry (kd x hx) (kd y hy) (Cu x hx y hy) (by rw[<-e1,<-e2];exact hQ)
  .have kk:=kat_kind (A:=A) (E:=E) (s:=s) (Q:=λκ s''=>κ=pI ag/\s''=s) f1 (by rw[f2,aN];exact zd 0x4a28002806 rfl h3) f3 (by decide) ⟨congrArg pI (show (fq "int" != fq "tuple")=ag by decide),rfl⟩;rw[gF] at kk;exact kk
 .have kd:∀x∈xs,∃i,key x = .int i:=λx hx=>kd _ (b8 hx);refine zf rc (λp' q' CN GZ Q' E' hQ=>?_) ?_
  .obtain⟨x,y,⟨hx,hy⟩,⟨rx,ry⟩,e1,e2⟩:=pr CN GZ;exact zkH rx ry (kd x hx) (kd y hy) (Cu x hx y hy) (by rw[<-e1,<-e2];exact hQ)
  .have kk:=kas_kind (M:=X.M) (A:=A) (E:=E) (s:=s) (vs:=kA.toList) (T:=.type "int") (Q:=λκ s''=>κ=rc/\s''=s) (by rw[aN];exact zt2 h3) (λv hv=>by
    refine za (rk.mem v hv) λx hx rx=>za (List.mem_map.mp hx) λy hy F9=>?_;subst F9;obtain⟨i,e⟩:=kd y hy;rw[e] at rx;obtain⟨_,rfl⟩:=sv.wC rx;exact .now) (by decide) (by decide) ⟨rfl,rfl⟩
   rw[gF] at kk;exact kk
open Classical in
theorem zjP{A:bn}{h1:cI}{key:AV->AV}{Y:AV->Nat}{E:aD->ay->Prop}{R:Fin->ay->Prop}(room:A.units+2000<f6)(a:At X U s)(rs:sw U s.heap xs vs)(hm:xs.length<=1000000)(hD:D=s.heap.objs.size+1)(D3:h1.objs.size=s.heap.objs.size+2)(uf:h1.get? D=ae (Hx "list" vs.toArray 0))(keep:∀b o,s.heap.get? b=ae o->h1.get? b=ae o)
  (hk:∀x∈xs,Cp X kf (sC U) A x (key x))(kd:y8 (xs.map key))(Cu:∀x∈xs,∀y∈xs,uE (sC U) (key x) (key y) (decide (Y x<Y y)))
  (q:∀ys:List AV,ys.Perm xs->ys.Pairwise (λx y=>Y x<=Y y)->tO r ys Q (sC U))(hR:∀v s',sB X U s Q (.ref D) s'->R (.done (.ret v)) s') :
  aI X.M A (ksk_tree D kf ai) R E { s with heap:=h1 }:=by
 have Ct:=rs.length;obtain⟨e1,D7⟩:∃e1,(h1.update D (aX λ_=>(#[]:Array aD))).get? D=ae (Hx "list" #[] e1):=⟨_,Hy uf λ_=>#[]⟩
 have Pd:=bB h1 D (aX λ_=>(#[]:Array aD));have MB:((h1.update D (aX λ_=>(#[]:Array aD))).push (Hx "tuple" vs.toArray 0)).objs.size=s.heap.objs.size+3:=by rw[ij,eZ,D3]
 unfold ksk_tree;refine G9 (Hu uf rfl ?_);refine G9 (Ht uf rfl ?_ (by rw[aK,Hd];exact zgW hm Ct) (aE _));refine G9 (mE D7 rfl ?_);refine G9 (wpAny_newTuple ?_ (by show vs.length<=_;rw[Hd];exact zgW hm Ct));refine G9 (Hh ?_ (aE _));refine Hc ?_;obtain⟨h0,uJ⟩:∃x,x=((h1.update D (aX λ_=>(#[]:Array aD))).push (Hx "tuple" vs.toArray 0)).push (Hx "list" #[] 0):=⟨_,rfl⟩
 show aI X.M A (ksk_rest D kf ai vs.toArray e1 (.ref ((h1.update D (aX λ_=>(#[]:Array aD))).push (Hx "tuple" vs.toArray 0)).objs.size)) _ E { s with heap:=((h1.update D (aX λ_=>(#[]:Array aD))).push (Hx "tuple" vs.toArray 0)).push (Hx "list" #[] 0) };obtain⟨kS,hkSe⟩:∃kS,kS=s.heap.objs.size+3:=⟨_,rfl⟩
 have CX:h0.get? kS=ae (Hx "list" #[] 0):=by rw[uJ,hkSe,<-MB];exact aM _ rfl
 have Rl:h0.get? D=ae (Hx "list" #[] e1):=by rw[uJ];exact az _ (az _ D7)
 have HL:∀b o,s.heap.get? b=ae o->h0.get? b=ae o:=λb o e=>by
  have Cu:b<s.heap.objs.size:=aO e;rw[uJ];exact az _ (az _ ((Pd.2 b (zun hD Cu)).trans (keep b o e)))
 have NP:s.heap.objs.size<=h0.objs.size:=by rw[uJ,ij,MB];exact zd 0x2560a5000 rfl
 rw[MB,<-hkSe,<-uJ];have oD:=jL a (b:=D) (zp3 hD);have oK:=jL a (b:=kS) (zxK hkSe);have Ps:kS≠D:=zCN hD hkSe;have fK:kS∉X.fr:=zdc a (zxK hkSe);have fD:D∉X.fr:=zdc a (zp3 hD);clear uJ MB D7 Pd uf keep D3;have a0:At X U { s with heap:=h0 }:=a.grown s.toks HL;have CH:Step (λb=>b=D\/b=kS) U s U { s with heap:=h0 }:=.same (λb o e _=>HL b o e) NP;have noB:sH (λb=>b=D\/b=kS) s.heap:=by
  rintro b o (h|h) e _<;>exact absurd (aO e) (by (first|exact zc 0x70a4140184011921a0846 rfl hD h|exact zc 0x70a4140184011961a0846 rfl hkSe h))
 have Mn:∀{o:oz} {b:Array aD} {e:Nat},o=Hx "list" b e->∀es n,o.data≠.dict es n:=by
  rintro o b e rfl es n h;cases h
 have EI:∀{o:oz} {b:Array aD} {e:Nat},o=Hx "list" b e->¬qM o:=by
  rintro o b e rfl (⟨h,_⟩|⟨h,_⟩|⟨c,vs,h,_⟩)
  .simp[Hx] at h
  .simp[Hx] at h
  .simp[Hx] at h
 unfold ksk_rest;refine G9 (He ?_)
 first
  | rw[List.forIn_toArray]
  | (rw[<-fn];simp only[List.toList_toArray])
  | rw[<-fn]
 refine G9 (ksk_fold (λj s'=>∃U' kA e,(sC U'=sC U/\U' D=af/\U' kS=af)/\At X U' s'/\Step (λb=>b=D\/b=kS) U s U' s'/\s'.heap.get? kS=ae (Hx "list" kA e)/\s'.heap.get? D=ae (Hx "list" #[] e1)/\sw U' s'.heap ((xs.take j).map key) kA.toList) vs 0 _
  (k8 U (#[]) 0 (zu rfl oD.1 oK.1) a0 CH CX Rl .nil) ?step ?done)
 case step=>
  intro j v s' hv Da;refine ja Da λU' kA e Np a' Cs CO HN rk=>?_;obtain⟨hvis,nD,nK⟩:=Np;have NG:=Cs.keepV a noB;simp only[ci] at rk ⊢;have hj:j<vs.length:=(List.getElem?_eq_some_iff.mp hv).1;have J8:j<xs.length:=zCO Ct hj;obtain⟨x,hx⟩:∃x,xs[j]? = ae x:=⟨_,aC J8⟩
  refine za (rs.get hx) λv' Pf rx=>?_;rw[hv] at Pf;obtain rfl:=Hz Pf;have Ro:=bX hx;have hz:kA.size=j:=by
   have h1:=rk.length;simp only[am,dt,aN] at h1;exact zg 0x40200838118690d00618846 rfl Ct hj h1
  refine G9 (iM (Hb (hk x Ro U' s' v hvis a' (rx.mono NG)) (λk s2 hr=>?_) λ_ _ h=>h.elim));refine zv hr λav σ2 rv a2 Cy KL hσ=>?_;subst KL;have EU:=Cy.keepV0 a';have EB:=Cy.keep kS _ CO nK (λh=>h) (Mn rfl);have QU:=Cy.keep D _ HN nD (λh=>h) (Mn rfl);have Rc:=Cy.gone HN nD;have PR:=Cy.gone CO nK;have sb:=bB s2.heap kS (aX (·.push k));obtain⟨c2,Ep⟩:∃c2,(s2.heap.update kS (aX (·.push k))).get? kS=ae (Hx "list" (kA.push k) c2):=⟨_,Hy EB (·.push k)⟩
  have M7:sA σ2 s2.heap σ2 (s2.heap.update kS (aX (·.push k))):=.mk' λb o ho st=>by
   by_cases hb:b=kS
   .subst hb;rw[EB] at ho;exact absurd st (EI (Hz ho).symm)
   .rw[sb.2 b hb];exact ho
  try dsimp only
  refine G9 (Ht EB rfl ?_ (by rw[Hd];exact zg 0x2000001300060118491d00610446f424090406 rfl hm Ct hj hz) (ap (bp (Array.size_push ..)) (by rw[Hd];exact zg 0x90000000010000009d120a0060118491d00610446f424090406 rfl hm Ct hj hz)));refine Ha (zgc rfl σ2 (kA.push k) c2 (zu hσ Rc PR) (At.aside a2 s2.toks PR oK.2.1 (λo ho=>by rw[EB] at ho;exact EI (Hz ho).symm) (λq=>absurd q fK) sb) ((Cs.trans (Cy.weaken λ_ h=>h.elim)).trans (Step.aside s2.toks (.inr rfl) sb)) Ep ((sb.2 D Ps.symm).trans QU) ?_);have ek:xs.take (j+1)=xs.take j++[x]:=by rw[eG,hx];simp
  rw[ek,aB,aV];exact((rk.mono EU).mono M7).append (.cons (rv.mono M7) .nil)
 case done=>
  intro s' CY;refine ja CY λU' kA e NV a' Cs CO HN rk=>?_;obtain⟨hvis,nD,nK⟩:=NV;have e3:xs.take (0+vs.length)=xs:=dj (zBf Ct);rw[e3] at rk
  try dsimp only
  refine G9 (Hu CO rfl ?_);have E8:kA.size=vs.length:=by have h1:=rk.length;simp only[am,aN] at h1;exact zc 0x4020084608846 rfl Ct h1
  have NG:=Cs.keepV a noB;have DS:=rs.mono NG;rw[<-hvis] at Cu q;have z:=zp8 (key:=key) DS rk;have ez:(kA.zip vs.toArray).toList=kA.toList.zip vs:=ksk_zip kA vs;rw[<-ez] at z;obtain⟨YK,hρ⟩:=zfB a' Cu
  -- the tail: any order of the pairs that is sorted
  have tail:∀st:aQ,(Hv st).Perm (kA.zip vs.toArray)->dY st=af->((Hv st).toList.Pairwise λx y=>YK x.1<=YK y.1)->
    aI X.M A (ksk_tail D ai e1 (.ref kS) st) R E s':=by
   intro st hp hf hs;refine za (z.perm (Array.perm_iff_toList_perm.mp hp)) λys HT JT=>?_;have NM:ys.Pairwise λx y=>Y x<=Y y:=JT.pair (λy hy pp Qo=>hρ y (HT.mem_iff.mp hy) _ Qo.2) hs;have s1:=bB s'.heap kS (aX λ_=>(#[]:Array aD));have M5:(s'.heap.update kS (aX λ_=>(#[]:Array aD))).get? D=ae (Hx "list" #[] e1):=(s1.2 D Ps.symm).trans HN;have s2:=bB (s'.heap.update kS (aX λ_=>(#[]:Array aD))) D (aX λ_=>(Hv st).map (·.2));obtain⟨c2,Ep⟩:∃c2,((s'.heap.update kS (aX λ_=>(#[]:Array aD))).update D (aX λ_=>(Hv st).map (·.2))).get? D=ae (Hx "list" ((Hv st).map (·.2)) c2):=⟨_,Hy M5 λ_=>(Hv st).map (·.2)⟩
   have Ou:((Hv st).map (·.2)).size=vs.length:=by
    have h1:(Hv st).size=(kA.zip vs.toArray).size:=hp.size_eq;rw[re,E8,aK] at h1;rw[mF];exact h1.trans (og _)
   unfold ksk_tail
   try dsimp only
   refine G9 (Ht CO rfl ?_ (by rw[Hd];exact zc 0x8000004c001004610446f424090406 rfl hm Ct E8) (aE _));refine G9 (wpAny_letGo ?_);refine G9 (mE M5 rfl ?_);refine G9 (Ht M5 rfl ?_ (aE _) (ap (bp Ou) (by rw[Hd];exact zb 0x90000000010000009d00000446f424090406 rfl hm Ct)));rw[hf];simp only[bne_self_eq_false,aT,if_false];refine Ha (hR _ _ ?_);obtain⟨H2,hH2⟩:∃x,x=(s'.heap.update kS (aX λ_=>(#[]:Array aD))).update D (aX λ_=>(Hv st).map (·.2)):=⟨_,rfl⟩
   rw[<-hH2] at Ep s2 ⊢;have same:∀b,b≠D->b≠kS->H2.get? b=s'.heap.get? b:=λb h1 h2=>(s2.2 b h1).trans (s1.2 b h2);have Se:sA U' s'.heap U' H2:=.mk' λb o ho st=>by
    rw[same b (λe=>by rw[e,HN] at ho;exact absurd st (EI (Hz ho).symm)) (λe=>by rw[e,CO] at ho;exact absurd st (EI (Hz ho).symm))];exact ho
   have aa:=At.aside a' s'.toks nK oK.2.1 (λo ho=>by rw[CO] at ho;exact EI (Hz ho).symm) (λq=>absurd q fK) s1;have ab:At X U' { s' with heap:=H2 }:=At.aside aa s'.toks nD oD.2.1 (λo ho=>by rw[M5] at ho;exact EI (Hz ho).symm) (λq=>absurd q fD) s2;have MC:s.heap.objs.size<=H2.objs.size:=by rw[hH2,eZ,eZ];exact Cs.size
   have yh:Step E0 U s U' { s' with heap:=H2 }:=⟨λb o e h1 _ hd=>by
     have Cu:b<s.heap.objs.size:=aO e;show H2.get? b=_;rw[same b (zun hD Cu) (zx2 hkSe Cu)];exact Cs.keep b o e h1 (by rintro(h|h)<;>(first|exact zc 0x7008460a45401921a0046 rfl hD Cu h|exact zc 0x7008460a45401961a0046 rfl hkSe Cu h)) hd,λb o e h1 _=>by
     have Cu:b<s.heap.objs.size:=aO e;obtain⟨sl,h⟩:=Cs.keepD b o e h1 (by rintro(h|h)<;>(first|exact zc 0x7008460a45401921a0046 rfl hD Cu h|exact zc 0x7008460a45401961a0046 rfl hkSe Cu h));exact⟨sl,(same b (zun hD Cu) (zx2 hkSe Cu)).trans h⟩,Cs.fresh,MC,Cs.frz⟩
   obtain⟨av,ao,o1,o2,o3,o4⟩:=zpR (r:=r) (D:=D) (acc:=ys) (ys:=((Hv st).map (·.2)).toList) (n:=c2) (Q:=Q) (by
      unfold zY;rw[gF];exact Ep) (by
      have:=(znr JT).mono Se;rwa [<-lq] at this) (by rw[HT.length_eq];exact hm) ab yh nD oD.2.1 fD (zp3 hD) (q ys HT NM)
   exact zq av _ o1 o2 o3 o4
  unfold ksk_end
  try dsimp only
  by_cases h2:vs.toArray.size<2
  .rw[if_pos h2,if_pos h2];refine G9 (Ha ?_);rw[StateT.run_pure];refine G9 (Ha ?_)
   try dsimp only
   refine tail (lL general' (kA.zip vs.toArray) #[] 7 af) (.refl _) rfl ?_;show (kA.zip vs.toArray).toList.Pairwise _;have:(kA.zip vs.toArray).toList.length<2:=by rw[ez,List.length_zip,aN,E8,og];simpa using h2
   exact ztK this
  .rw[if_neg h2,if_neg h2];have h3:2<=vs.length:=by simpa using h2
   have OK:(kA.zip vs.toArray).size=vs.length:=by rw[re,E8,aK,og]
   obtain⟨κ,H,kk⟩:=zqS (E:=E) a' room z rk (by rw[E8];exact h3) kd Cu hρ;have hB:SB κ (kA.zip vs.toArray) (lL κ (kA.zip vs.toArray) #[] 7 af):=⟨.refl _,rfl,rfl⟩
   have run:=zeP (E:=E) (Q:=λ_ Cs=>(Hv Cs).Perm (kA.zip vs.toArray)/\dY Cs=af/\(Hv Cs).toList.Pairwise (λx y=>YK x.1<=YK y.1)) H hB rfl (by rw[OK];exact h3) (by rw[OK,<-Ct];exact hm) λCs CB hs=>(zu CB.perm CB.failed (by
    have:=CB.size;exact j8 (Y:=λp=>YK p.1) (by rw[this];exact hs)))
   refine G9 (Hb kk (λκ s'' hκ=>?_) λ_ _ e=>e);obtain⟨rfl,rfl⟩:=hκ;refine G9 (Hb run (λr s'' hr=>?_) λ_ _ e=>e);obtain⟨⟨⟩,Cy⟩:=r;refine zI hr λKf D0 Mz NA=>?_;subst Kf;exact tail Cy D0 Mz NA
open Classical in
theorem zeV{key:AV->AV}{Y:AV->Nat}{E:aD->ay->Prop}(L:sK X d A)(a:At X U s)(Fv:jq (sC U) x0=ae xs)(Sa:sv U s.heap x0 v0)(RK:∀p:aH,dM.«list.sort» ⟨[.ref p],[(nZ "key",kf)]⟩=ksk_tree p kf ai)
  (hk:∀x∈xs,Cp X kf (sC U) A.in1.in1 x (key x))(kd:y8 (xs.map key))(Cu:∀x∈xs,∀y∈xs,uE (sC U) (key x) (key y) (decide (Y x<Y y)))
  (q:∀ys:List AV,ys.Perm xs->ys.Pairwise (λx y=>Y x<=Y y)->tO r ys Q (sC U)) :
  aI X.M A (call (.builtin "sorted") [v0] [(nZ "key",kf)]) (sB X U s Q) E s:=by
 refine zv (a.isList (zZ Fv) Sa) λp vs E1 hp hl rs hm=>?_;subst E1;have Ct:=rs.length;have room:=L.room;have u1:A.in1.in1.units=A.units+2:=by rw[dR,dR]
 refine call_function_entry_kw kind_sorted plain_sorted entry_sorted (ksk_s1 _ _) ?_;unfold dM.«sorted»;refine G9 (m:=checkCount "sorted" 1 1 _) (Ha ?_);refine G9 (collect_list hl ?_ (by rw[Hd];exact zgW hm Ct));refine G9 (Hh ?_ (by rw[Hd];exact zgW hm Ct));have hsz:((s.heap.push (Hx "list" #[] 0)).update s.heap.objs.size (aX (·++vs.toArray))).objs.size=s.heap.objs.size+1:=by
  rw[eZ,ij]
 obtain⟨h1,vo⟩:∃x,x=((s.heap.push (Hx "list" #[] 0)).update s.heap.objs.size (aX (·++vs.toArray))).push (Hx "list" vs.toArray 0):=⟨_,rfl⟩
 have uf:h1.get? (s.heap.objs.size+1)=ae (Hx "list" vs.toArray 0):=by
  rw[vo,<-hsz];exact aM _ rfl
 have D3:h1.objs.size=s.heap.objs.size+2:=by rw[vo,ij,hsz]
 have keep:∀b o,s.heap.get? b=ae o->h1.get? b=ae o:=λb o q=>by
  have Cu:b<s.heap.objs.size:=aO q;rw[vo,fX _ _ _ (by rw[hsz];exact bl (eH Cu)),mV _ _ _ _ (bl Cu),fX _ _ _ (bl Cu)];exact q
 show aI _ _ _ _ _ { s with heap:=((s.heap.push (Hx "list" #[] 0)).update s.heap.objs.size (aX (·++vs.toArray))).push (Hx "list" vs.toArray 0) };rw[hsz,<-vo];refine G9 (Hc (wpAny_call_entry_kw slot_list_sort (zf _ uf rfl) pC ?body (ksk_l1 _ _)))
 case body=>
 rw[RK];exact zjP (by rw[u1];exact zb 0x14803e84940a52800a402ee240a5006 rfl room) a rs hm rfl D3 uf keep hk kd Cu q λv s' h=>zf _ rfl (Ha (zf _ rfl h))
section
variable{X:Cx}{K:fE}{env:fB}{nm:List (b7×Nat)}{names:List (b7×bC)}
theorem zrP{r:Bool}{e:Expr}{m:AE}{g:b7}{f:aH}{o:oz}{fd:gD}{gp lp kp pos:pJ}(G:Gd X K)(E:EK env names)(hb:xy K "sorted" (.builtin "sorted"))(hg:jQ names "sorted" = ag)(hf:rC K Hn g=ae (ae (.ref f)))(ho:K.lookup f=ae o)(EM:o.data = .func fd)(PC:jQ names g=ag)(hs:jo e=ag)(h:zi X env nm e m) :
  zi X env nm (.Call (.Name "sorted" gp) [e] [⟨ae "key",.Name g lp,kp⟩] pos) (A.w9 X f r m):=λd A l U s Q Z L a F q=>by
 show aI X.M A (do callWith pos (<-fm (.Name "sorted" gp) env) [] (fo pos (cZ [e] env)) (backToKw pos (pe [⟨ae "key",.Name g lp,kp⟩] env))) _ _ s;refine G9 (jd G.ok E.eo a (E.glob hg).1 (by decide) (G.none hb) (G.some hb) ?_);have he:fo pos (cZ [e] env)=(ai,fm e env)::fo pos (cZ [] env):=by rw[zL hs];rfl
 refine callWith_kw ?_ he (by rw[he];rfl);rw[he];refine bt (zak (h d A l U s _ Z L a F q) λav v σ1 s1 rv a1 st1 q1=>?_);refine cy (kws_cons (qH G.ok E.eo a1 (E.glob PC).1 (E.glob PC).2 (rO G.inn G.ok.g hf) (kws_nil ?_)));refine za (zh q1) λxs hx q1=>?_;unfold yg at q1;refine zv q1 λkey Y hd hk kd Cu q2=>?_;have L2:sK X ⟨d.n+1,d.hd⟩ A.in1.in1:=⟨by have:=L.depth;show A.depth<=301+(d.n+1);exact zb 0x90d0004b65400020025b2a0006 rfl this,by have:=L.units;rw[dR,dR];show _<=20+8*(d.n+1);exact zb 0x243400008b0000a4a894829400400022c000292a0006 rfl this,L.handled,by show d.n+1<=600;lia,L.frames⟩
 refine jN st1 (zeV L a1 hx rv (λp=>ksk_t1 _ _) (λx hx σ2 s2 v2 hv a2 r2=>?_) (.inl λy hy=>?_) Cu q2)
 .have:=hk x hx;rw[<-hv] at this;refine Hb (this.call L2 a2 (.cons r2 .nil)) (λk s3 hr=>?_) λe s3 hr=>?_
  .exact zv hr λav σ3 h1 h2 h3 h4 h5=>jh av σ3 h1 h2 h3 h4 (h5.trans hv)
  .exact jX hr λc σ3 x g _ _ _ _ _ hF=>hF
 .refine za (List.mem_map.mp hy) λx hx JQ=>?_;subst JQ;exact kd x hx
theorem znd{r:Bool}{e:Expr}{m:AE}{gp lp kp pos:pJ}(G:Gd X K)(E:EK env names)(hb:xy K "sorted" (.builtin "sorted"))(Pq:xy K "len" (.builtin "len"))(hg:jQ names "sorted" = ag)(Sh:jQ names "len" = ag)(hs:jo e=ag)(h:zi X env nm e m) :
  zi X env nm (.Call (.Name "sorted" gp) [e] [⟨ae "key",.Name "len" lp,kp⟩] pos) (A.w2 r m):=λd A l U s Q Z L a F q=>by
 show aI X.M A (do callWith pos (<-fm (.Name "sorted" gp) env) [] (fo pos (cZ [e] env)) (backToKw pos (pe [⟨ae "key",.Name "len" lp,kp⟩] env))) _ _ s;refine G9 (jd G.ok E.eo a (E.glob hg).1 (by decide) (G.none hb) (G.some hb) ?_);have he:fo pos (cZ [e] env)=(ai,fm e env)::fo pos (cZ [] env):=by rw[zL hs];rfl
 refine callWith_kw ?_ he (by rw[he];rfl);rw[he];refine bt (zak (h d A l U s _ Z L a F q) λav v σ1 s1 rv a1 st1 q1=>?_);refine cy (kws_cons (jd G.ok E.eo a1 (E.glob Sh).1 (by decide) (G.none Pq) (G.some Pq) (kws_nil ?_)));refine za (zh q1) λxs hx q1=>?_;unfold A0 at q1;obtain⟨ht,q2⟩:=q1;refine jN st1 (zeV (key:=λx=>.int (xA x)) (Y:=xA) L a1 hx rv (λp=>ksk_t4 _ _) (λx hx σ2 s2 v2 hv a2 r2=>?_) (.inr λy hy=>?_) (λx hx y hy=>?_) q2)
 .obtain⟨l,rfl⟩:=ht x hx;refine zj (sv.wI r2) λb vs Lp hl it rs=>?_;subst Lp;have Ct:=rs.length;have e:(vs.toArray.size:Int)=(xA (.tup l):Nat):=congrArg Nat.cast (List.size_toArray.trans Ct.symm);refine len_tuple it (by simp;exact zuj hl Ct) ?_;rw[e];exact zaj a2 (.int _ _) ⟨rfl,hv⟩
 .refine za (List.mem_map.mp hy) λx hx LK=>?_;subst LK;exact⟨_,rfl⟩
 .refine jh _ _ (.int _) (.int _) (aE _) (aE _) ?_;simp[zcq,zoL,zem]
end
noncomputable def qn(led:Bool)(m mv:Nat)(P:List Nat):SetTable:={ mask:=m,place:=P.toArray,dummies:=#[],finger:=0,led:=led,moves:=mv,plain:=ag }
noncomputable abbrev kq(P:List Nat):Prop:=P.Pairwise (· < ·)
theorem zyK{a:Array Nat}{j lo hi:Nat}:eI a j 0 lo hi=lo:=rfl
theorem zyL{a:Array Nat}{j f lo hi:Nat}:eI a j (f+1) lo hi=if lo<hi then if a.getD ((lo+hi)/2) j<j then eI a j f ((lo+hi)/2+1) hi else eI a j f lo ((lo+hi)/2) else lo:=rfl
def zyC(P:List Nat)(j lo hi r:Nat):Prop:=lo<=r/\r<=hi/\(∀i x,i<r->P[i]? = ae x->x<j)/\(∀i x,r<=i->P[i]? = ae x->j<=x)
theorem znx(hP:kq P):∀(CG lo hi:Nat),lo<=hi->hi<=P.length->hi-lo<=CG->(∀i x,i<lo->P[i]? = ae x->x<j)->(∀i x,hi<=i->P[i]? = ae x->j<=x)->zyC P j lo hi (eI P.toArray j CG lo hi):=by
 intro CG
 induction CG with
 | zero=>
  intro lo hi h1 h2 h3 h4 h5;have e:lo=hi:=zwm h1 h3;rw[zyK];exact⟨ar _,h1,h4,λi x h=>h5 i x (e▸h)⟩
 | succ CG ih=>
  intro lo hi h1 h2 h3 h4 h5;rw[zyL]
  by_cases hl:lo<hi
  .rw[if_pos hl];have m1:lo<=(lo+hi)/2:=(m9 (by decide)).mpr (by rw[mB];exact cu h1 lo);have m2:(lo+hi)/2<hi:=(Nat.div_lt_iff_lt_mul (by decide)).mpr (by rw[mB];exact mD hl hi);generalize (lo+hi)/2=m at m1 m2;have hm:m<P.length:=aS m2 h2;have hg:P.toArray.getD m j=P[m]:=by simp[nz,hm]
   rw[hg];have mono:∀i k x y,i<=k->P[i]? = ae x->P[k]? = ae y->x<=y:=λi k x y EY e e'=>by
    obtain⟨h1,rfl⟩:=List.getElem?_eq_some_iff.mp e;obtain⟨h2,rfl⟩:=List.getElem?_eq_some_iff.mp e'
    rcases Nat.lt_or_eq_of_le EY with q|q
    .exact cX (List.pairwise_iff_getElem.mp hP i k h1 h2 q)
    .subst q;exact ar _
   have em:=aC hm
   by_cases hc:P[m]<j
   .rw[if_pos hc];obtain⟨a,b,c,d⟩:=ih (m+1) hi m2 h2 (Nat.sub_le_of_le_add (ap (Nat.sub_le_iff_le_add.mp h3) (by rw[cJ,lO m 1];exact cu (cu m1 1) CG))) (λi x h e=>cU (mono i m x _ (iC h) e em) hc) h5;exact⟨ap m1 (Nat.le_of_succ_le a),b,c,d⟩
   .rw[if_neg hc];obtain⟨a,b,c,d⟩:=ih lo m m1 (cX hm) (iC (aS (Nat.sub_lt_sub_right m1 m2) h3)) h4 (λi x h e=>ap (Nat.not_lt.mp hc) (mono m i _ x h em e));exact⟨a,ap b (cX m2),c,d⟩
  .rw[if_neg hl];have e:lo=hi:=zwn h1 hl;exact⟨ar _,h1,h4,λi x h=>h5 i x (e▸h)⟩
theorem zdR(hP:kq P)(j):bj P.toArray j<=P.length/\(∀i x,i<bj P.toArray j->P[i]? = ae x->x<j)/\(∀i x,bj P.toArray j<=i->P[i]? = ae x->j<=x):=by
 unfold bj;rw[aK];obtain⟨_,b,c,d⟩:=znx hP (j:=j) P.length 0 P.length (aE _) (ar _) zwf (λi x h=>absurd h (dF _)) (λi x h e=>absurd (List.getElem?_eq_some_iff.mp e).1 (Nat.not_lt.mpr h));exact⟨b,c,d⟩
noncomputable def wb(P:List Nat)(j:Nat):List Nat:=P.take (bj P.toArray j)++j::P.drop (bj P.toArray j)
theorem zht(hP:kq P)(hj:j∉P):kq (wb P j):=by
 obtain⟨h1,h2,h3⟩:=zdR hP j;unfold wb;have lo:∀x∈P.take (bj P.toArray j),x<j:=λx hx=>by
  obtain⟨i,hi,e⟩:=gR hx;rw[List.getElem_take] at e;rw[dt] at hi;exact h2 i x (zws hi) (by rw[<-e];exact aC _)
 have hi:∀x∈P.drop (bj P.toArray j),j<x:=λx hx=>by
  obtain⟨i,hi,e⟩:=gR hx;rw[List.getElem_drop] at e;rw[eX] at hi;have:=h3 (bj P.toArray j+i) x (bN _ _) (by rw[<-e];exact aC _);exact im this λq=>hj (q▸gE hx)
 refine List.pairwise_append.mpr ⟨hP.sublist (oh ..),List.pairwise_cons.mpr ⟨λx hx=>hi x hx,hP.sublist (List.drop_sublist ..)⟩,λx hx y hy=>?_⟩
 rcases List.mem_cons.mp hy with rfl|hy
 .exact lo x hx
 .exact aw (lo x hx) (hi y hy)
theorem zhs(P)(j):(wb P j).length=P.length+1:=by
 unfold wb;rw[aq,au,dt,eX];exact zb 0x90d1200d68106282 rfl
theorem zvr(j):(qn led m mv P).put j=(qn led m mv (wb P j),bj P.toArray j):=by
 unfold SetTable.put qn wb;dsimp only;have:sh #[] j=ai:=rfl;rw[this];simp only[aT,if_false,rj,and_true,SetTable.mk.injEq,true_and];refine ny ?_;rw[SetTable.toList_insertAt]
theorem ztT(hP:kq P)(j):(qn led m mv P).slot j = .empty/\j∉P\/∃i,(qn led m mv P).slot j = .live i/\j∈P:=by
 obtain⟨h1,h2,h3⟩:=zdR hP j;unfold SetTable.slot qn;dsimp only;rw[dB]
 by_cases h:P[bj P.toArray j]? = ae j
 .rw[if_pos (by rw[h];exact beq_self_eq_true _)];exact .inr ⟨_,rfl,bX h⟩
 .rw[if_neg (by simpa using h),show sh #[] j=ai from rfl];refine .inl ⟨rfl,λhm=>?_⟩;obtain⟨i,hi,e⟩:=gR hm;have e:P[i]? = ae j:=by rw[<-e];exact aC _
  have a:¬i<bj P.toArray j:=λq=>cW _ (h2 i j q e);have b:i≠bj P.toArray j:=λq=>h (q▸e);have c:bj P.toArray j<P.length:=zwu hi a;have d:=List.pairwise_iff_getElem.mp hP _ i c hi (zwp a b);have f:=h3 _ _ (ar _) (aC c);rw[aC hi] at e;cases e;exact zb 0x1c010182905006 rfl d f
noncomputable def vW(m:Nat)(p:eT):eT:=oR (qn ag m 0 []) p
theorem zsH(p):(qn led m mv P).advance p=vW m p:=rfl
theorem zli(p):(vW m p).dummy=p.dummy:=by
 unfold vW oR;split<;>rfl
noncomputable def uR(m:Nat)(p:eT):Nat->eT
 | 0=>p
 | k+1=>uR m (vW m p) k
theorem zzv:eJ t f h (n+1) p=match t.slot p.j with|.empty=>ae (.empty p.j p.dummy)|.dummy=>eJ t f h n (t.advance { p with dummy:=ae p.j })|.live i=>if f i==h then ae (.candidate p.j i (t.advance p)) else eJ t f h n (t.advance p):=rfl
theorem zpl(hP:kq P):∀(CG:Nat) (p:eT),p.dummy=af->(∃k,k<CG/\(uR m p k).j∉P)->∃j,eJ (qn led m mv P) (λ_=>h+1) h CG p=ae (.empty j af)/\j∉P:=by
 intro CG
 induction CG with
 | zero=>exact λp _ ⟨k,hk,_⟩=>absurd hk (dF _)
 | succ CG ih=>
  intro p hd ⟨k,hk,hf⟩;rw[zzv]
  rcases ztT (led:=led) (m:=m) (mv:=mv) hP p.j with⟨e,hn⟩|⟨i,e,hm⟩
  .rw[e,hd];exact⟨_,rfl,hn⟩
  .rw[e];dsimp only;rw[if_neg (by simp only[beq_iff_eq];exact zv7),zsH];cases k with|zero=>exact absurd hm hf|succ k=>exact ih (vW m p) (by rw[zli];exact hd) ⟨k,zxp hk,hf⟩
theorem zkT(m)(a b)(p):uR m p (a+b)=uR m (uR m p a) b:=by
 induction a generalizing p with
 | zero=>rw[ci];rfl
 | succ a ih=>rw[si];exact ih _
noncomputable def run(m i q:Nat):eT:={ j:=i,more:=dc m i-i,i:=i,perturb:=q,dummy:=af }
theorem zrh:∀(r j i q:Nat) (d:Option Nat),(∀k,k<=r->(uR m ⟨j,r,i,q,d⟩ k).j=j+k)/\uR m ⟨j,r,i,q,d⟩ (r+1)={ run m (bT m i q).1 (bT m i q).2 with dummy:=d }:=by
 intro r
 induction r with
 | zero=>
  intro j i q d;refine⟨λk hk=>?_,rfl⟩;obtain rfl:=Nat.le_zero.mp hk
  rfl
 | succ r ih=>
  intro j i q d;have e:vW m ⟨j,r+1,i,q,d⟩=⟨j+1,r,i,q,d⟩:=rfl;refine⟨λk hk=>?_,?_⟩
  .cases k with
   | zero=>rfl
   | succ k=>
    show (uR m (vW m ⟨j,r+1,i,q,d⟩) k).j=_;rw[e,(ih (j+1) i q d).1 k (dU hk)];exact zp4
  .show uR m (vW m ⟨j,r+1,i,q,d⟩) (r+1)=_;rw[e];exact(ih (j+1) i q d).2
noncomputable def vb(m:Nat):Nat->Nat×Nat->Nat×Nat
 | 0,x=>x
 | n+1,x=>vb m n (bT m x.1 x.2)
theorem zmz(m i):dc m i-i<=9:=by unfold dc;split<;>(first|exact zd 0x4411052a0 rfl|exact zd 0x11002a0 rfl)
theorem zsw:∀(n:Nat) (x:Nat×Nat),∃k,k<=10*n/\uR m (run m x.1 x.2) k=run m (vb m n x).1 (vb m n x).2:=by
 intro n
 induction n with
 | zero=>exact λx=>⟨0,ar _,rfl⟩
 | succ n ih=>
  intro x;obtain⟨k,hk,e⟩:=ih (bT m x.1 x.2);refine⟨dc m x.1-x.1+1+k,by have:=zmz m x.1;exact zg 0x24740000ab09210569404420a80c30000ab0806 rfl hk this,?_⟩;rw[zkT,show run m x.1 x.2=⟨x.1,dc m x.1-x.1,x.1,x.2,af⟩ from rfl,(zrh ..).2];exact e
theorem zl0(m a b)(x):vb m (a+b) x=vb m b (vb m a x):=by
 induction a generalizing x with
 | zero=>rw[ci];rfl
 | succ a ih=>rw[si];exact ih _
theorem zsm(hq:q<32768):∃i',i'<m+1/\vb m 3 (i,q)=(i',0):=by
 have e:q/32/32/32=0:=by rw[lP,lP];exact Nat.div_eq_of_lt hq
 have go:∀i q,bT m i q=((i*5+1+q/32)%(m+1),q/32):=λ_ _=>rfl;refine⟨((((i*5+1+q/32)%(m+1))*5+1+q/32/32)%(m+1)*5+1+q/32/32/32)%(m+1),Nat.mod_lt _ (dG m),?_⟩;show bT m (bT m (bT m i q).1 (bT m i q).2).1 (bT m (bT m i q).1 (bT m i q).2).2=_;rw[go,go,go];dsimp only;rw[e]
theorem zzu:∀i<8,∀e<8,∃n,n<8/\vb 7 n (i,0)=(e,0):=by decide +kernel
theorem zst:∀i<32,∀e<32,∃n,n<32/\vb 31 n (i,0)=(e,0):=by decide +kernel
theorem pig:∀(N:Nat) (P:List Nat),(∀e,e<N->e∈P)->N<=P.length:=by
 intro N
 induction N with
 | zero=>exact λP _=>aE _
 | succ N ih=>
  intro P h;have hN:=h N (eY N);have:=ih (P.erase N) λe he=>(gG (bl he)).mpr (h e (eH he));rw[dJ hN] at this;have:=fY hN;exact zb 0x1482800a51401921a8006 rfl (by assumption) this
theorem zob{P:List Nat}(h:P.length<N):∃e,e<N/\e∉P:=by
 exact cj λq=>absurd (pig N P λe he=>cj λhn=>q ⟨e,he,hn⟩) (Nat.not_le.mpr h)
theorem ztX{P:List Nat}(hm:m=7/\P.length<=7\/m=31/\P.length<=31)(hq:q<32768):∃k,k<10*dz m/\(uR m (run m i q) k).j∉P:=by
 obtain⟨i',hi,e3⟩:=zsm (m:=m) (i:=i) hq;have go:∀n e,vb m n (i',0)=(e,0)->n<=31->∃k,k<=340/\(m=7->n<=7->k<=100)/\uR m (run m i q) k=run m e 0:=λn e he hn=>by
  obtain⟨a,ha,h1⟩:=zsw (m:=m) 3 (i,q);obtain⟨b,hb,h2⟩:=zsw (m:=m) n (i',0);rw[e3] at h1;rw[he] at h2;exact⟨a+b,zww hn ha hb,λ_ _=>zwt ha hb (by assumption),by rw[zkT,h1,h2]⟩
 rcases hm with⟨rfl,hl⟩|⟨rfl,hl⟩
 .obtain⟨e,he,hn⟩:=zob (N:=8) (bA hl);obtain⟨n,CQ,en⟩:=zzu i' hi e he;obtain⟨k,_,hk,ek⟩:=go n e en (zwb CQ);refine⟨k,by have:=hk rfl (zwc CQ);unfold dz;exact zb 0x3e4fa000055920a00001924003c2033de231a090d006 rfl CQ hk,?_⟩;rw[ek];exact hn
 .obtain⟨e,he,hn⟩:=zob (N:=32) (bA hl);obtain⟨n,CQ,en⟩:=zst i' hi e he;obtain⟨k,hk,_,ek⟩:=go n e en (zwa CQ);refine⟨k,cU hk (by decide),?_⟩;rw[ek];exact hn
theorem zdU(h0:0<=h)(h1:h<32768):cK h<32768:=by
 unfold cK;rw[oi h0 (lQ h1 (by decide))];exact(sj h0).mpr h1
theorem zs2(hP:kq P)(hm:m=7/\P.length<=7\/m=31/\P.length<=31)(h0:0<=h)(h1:h<32768):∃j,(qn led m mv P).freeSlot h=ae (j,ai)/\j∉P:=by
 obtain⟨j,e,hj⟩:=zpl (led:=led) (mv:=mv) (h:=h) hP (10*dz m) (run m (cK h%(m+1)) (cK h)) rfl (ztX hm (zdU h0 h1));refine⟨j,?_,hj⟩;unfold SetTable.freeSlot SetTable.probe;have e:eJ (qn led m mv P) (λ_=>h+1) h (10*dz (qn led m mv P).mask) ((qn led m mv P).probeStart h)=ae (.empty j af):=e;rw[e];rfl
noncomputable abbrev xt:=Array (Option Nat)
noncomputable def vt(o:xt)(j:Nat):Option (Nat×Nat):=(o.getD j af).map (j,·)
noncomputable def jy(o:xt):List (Nat×Nat):=(bJ 32).filterMap (vt o)
structure Ow(o:xt)(k:Nat):Prop where
 size:o.size=32
 perm:((jy o).map (·.2)).Perm (bJ k)
theorem zhE(o):kq ((jy o).map (·.1)):=by
 unfold jy;refine List.pairwise_map.mpr (List.Pairwise.filterMap (R:=(· < ·)) _ (λa b Rt x hx y hy=>?_) List.pairwise_lt_range);unfold vt at hx hy;obtain⟨_,_,rfl⟩:=Option.map_eq_some_iff.mp hx;obtain⟨_,_,rfl⟩:=Option.map_eq_some_iff.mp hy;exact Rt
theorem zuY:dm 31 o (n+1) i q=match (bJ (dc 31 i+1-i)).find? λk=>(o.getD (i+k) (ae 0)).isNone with|some k=>ae (i+k)|none=>dm 31 o n (bT 31 i q).1 (bT 31 i q).2:=rfl
theorem zn6:∀(n CG:Nat) (x:Nat×Nat),n<CG->(vb 31 n x).1=0->(∃k,k<10/\(o.getD k (ae 0)).isNone=ag)->∃j,dm 31 o CG x.1 x.2=ae j/\(o.getD j (ae 0)).isNone=ag:=by
 intro n
 induction n with
 | zero=>
  intro CG x hf hx ⟨k,hk,ho⟩;obtain⟨CG,rfl⟩:∃f,CG=f+1:=⟨CG-1,zv8 hf⟩
  have hx:x.1=0:=hx;rw[zuY];rw[hx];cases h:(bJ (dc 31 0+1-0)).find? λk=>(o.getD (0+k) (ae 0)).isNone with
  | some j=>exact⟨_,rfl,lY (p:=λk=>(o.getD (0+k) (ae 0)).isNone) h⟩
  | none=>
   have:=List.find?_eq_none.mp h k (List.mem_range.mpr hk);rw[ci] at this;exact absurd ho this
 | succ n ih=>
  intro CG x hf hx hk;obtain⟨CG,rfl⟩:∃f,CG=f+1:=⟨CG-1,zwj hf⟩
  rw[zuY];cases h:(bJ (dc 31 x.1+1-x.1)).find? λk=>(o.getD (x.1+k) (ae 0)).isNone with
  | some j=>exact⟨_,rfl,lY (p:=λk=>(o.getD (x.1+k) (ae 0)).isNone) h⟩
  | none=>exact ih CG (bT 31 x.1 x.2) (zxp hf) hx hk
theorem zrk(h:Ow o k)(hk:k<=8)(h0:0<=h')(h1:h'<32768):∃j,dm 31 o (dz 31) (cK h'%32) (cK h')=ae j/\j<32/\o.getD j af=af:=by
 have ML:∃k,k<10/\(o.getD k (ae 0)).isNone=ag:=by
  refine cj λq=>?_;have hl:((jy o).map (·.1)).length=k:=by rw[am,<-am (f:=λx:Nat×Nat=>x.2),h.perm.length_eq,be]
  have:=pig 10 ((jy o).map (·.1)) λe he=>by
   have hs:e<o.size:=by rw[h.size];exact zsD he
   have hv:(o.getD e (ae 0)).isNone≠ag:=λhn=>q ⟨e,he,hn⟩;have e1:o.getD e (ae 0)=o.getD e af:=by simp[nz,hs]
   rw[e1] at hv;cases ho:o.getD e af with
   | none=>rw[ho] at hv;exact absurd rfl hv
   | some v=>exact List.mem_map.mpr ⟨(e,v),List.mem_filterMap.mpr ⟨e,List.mem_range.mpr (zsD he),by unfold vt;rw[ho];rfl⟩,rfl⟩
  exact zb 0x708000548060044680006 rfl hk hl this
 obtain⟨i',hi,e3⟩:=zsm (m:=31) (i:=cK h'%32) (zdU h0 h1);obtain⟨n,hn,en⟩:=zst i' hi 0 (by decide);obtain⟨j,e,hj⟩:=zn6 (o:=o) (3+n) (dz 31) (cK h'%32,cK h') (by unfold dz;exact zd 0x7c80007e5448174a00000824905006 rfl hn) (by rw[zl0,e3,en]) ML;have Cu:j<o.size:=cj λq=>by
  have:o.getD j (ae 0)=ae 0:=by simp[nz,q]
  rw[this] at hj;exact nob hj
 refine⟨j,e,by rw[<-h.size];exact Cu,?_⟩;have e1:o.getD j (ae 0)=o.getD j af:=by simp[nz,Cu]
 rw[e1] at hj;exact Option.isNone_iff_eq_none.mp hj
theorem zhi{V β:Type}{f g:V->Option β}{l:List V}(h:∀x∈l,f x=g x):l.filterMap f=l.filterMap g:=by
 induction l with
 | nil=>rfl
 | cons x l ih=>rw[df,df,h x aj,ih λy hy=>h y (al _ hy)]
theorem ztF(h:Ow o k)(hj:j<32)(hn:o.getD j af=af):Ow (o.setIfInBounds j (ae k)) (k+1):=by
 refine⟨by rw[iN];exact h.size,?_⟩;have hs:j<o.size:=by rw[h.size];exact hj
 have PS:∀i,i≠j->vt (o.setIfInBounds j (ae k)) i=vt o i:=λi hi=>by
  unfold vt;rw[eM,eM,Array.getElem?_setIfInBounds_ne (bO hi)]
 have here:vt (o.setIfInBounds j (ae k)) j=ae (j,k):=by
  unfold vt;rw[eM,Array.getElem?_setIfInBounds_self_of_lt hs];rfl
 have De:vt o j=af:=by unfold vt;rw[hn];rfl
 obtain⟨Ua,Va,e⟩:=List.append_of_mem (List.mem_range.mpr hj);have nd:(Ua++j::Va).Nodup:=e▸oS;have nA:∀i∈Ua,i≠j:=λi hi q=>(List.nodup_append.mp nd).2.2 i hi j aj q;have nB:∀i∈Va,i≠j:=λi hi q=>(List.nodup_cons.mp (List.nodup_append.mp nd).2.1).1 (q▸hi);have p:(jy (o.setIfInBounds j (ae k))).Perm ((j,k)::jy o):=by
  unfold jy;rw[e,gf,gf,df,df,here,De];dsimp only;rw[zhi λi hi=>PS i (nA i hi),zhi λi hi=>PS i (nB i hi)];exact ln
 have q:((jy (o.setIfInBounds j (ae k))).map (·.2)).Perm (k::bJ k):=(p.map (λx:Nat×Nat=>x.2)).trans (h.perm.cons k);rw[gP];exact q.trans (eB (l₁:=[k]))
noncomputable def yn(acc:Option (xt×Nat))(h:Int):Option (xt×Nat):=do
 let (owner,k) <-acc
 let j <-dm 31 owner (dz 31) (cK h%(31+1)) (cK h)
 b9 (owner.setIfInBounds j (ae k),k+1)
theorem zoB:∀(hs:List Int) (o:xt) (k:Nat),Ow o k->k+hs.length<=8->(∀h∈hs,0<=h/\h<32768)->∃o',hs.foldl yn (ae (o,k))=ae (o',k+hs.length)/\Ow o' (k+hs.length):=by
 intro hs
 induction hs with
 | nil=>exact λo k h _ _=>⟨o,rfl,h⟩
 | cons h hs ih=>
  intro o k hO hl hh;rw[au] at hl;obtain⟨j,e,hj,hn⟩:=zrk hO (zwi hl) (hh h aj).1 (hh h aj).2;obtain⟨o',e',hO'⟩:=ih _ _ (ztF hO hj hn) (zwh hl) λx hx=>hh x (al _ hx);refine⟨o',?_,?_⟩
  .rw[bV,show yn (ae (o,k)) h=ae (o.setIfInBounds j (ae k),k+1) by unfold yn;simp only[Option.bind_eq_bind,Option.bind_some];rw[e];rfl,e',au]
   congr 2;exact zp4
  .rw[au,show k+(hs.length+1)=k+1+hs.length by exact zwr];exact hO'
theorem zrl:Ow (lZ 32 af) 0:=⟨Array.size_replicate,by
 have:jy (lZ 32 af)=[]:=by decide +kernel
 rw[this];exact .nil⟩
theorem ztj(hl:hs.size<=8)(hh:∀h∈hs.toList,0<=h/\h<32768):∃o,oj 31 hs=ae o/\Ow o hs.size:=by
 obtain⟨o,e,hO⟩:=zoB hs.toList _ 0 zrl (by rw[aN,ci];exact hl) hh;rw[aN,ci] at e hO;refine⟨o,?_,hO⟩;have e2:oj 31 hs=(hs.foldl (init:=ae (lZ 32 af,0)) yn).map (·.1):=rfl;rw[e2,<-Array.foldl_toList,e];rfl
theorem zrr(hl:es.size<=8)(hh:∀e∈es.toList,0<=e.1/\e.1<32768) :
  ∃P' es',relayAll (qn led 7 mv P) es 20=(es',qn led 31 (mv+1) P',ai)/\es'.toList.Perm es.toList/\kq P'/\P'.length=es.size:=by
 obtain⟨o,e,hO⟩:=ztj (hs:=es.map (·.1)) (by rw[mF];exact hl) (λh hm=>by
  rw[lq] at hm;obtain⟨x,hx,rfl⟩:=List.mem_map.mp hm;exact hh x hx)
 rw[mF] at hO;have er:(qn led 7 mv P).relaid (es.map (·.1)) 20=ae (qn led 31 (mv+1) ((jy o).map (·.1)),((jy o).map (·.2)).toArray):=by
  show rD 31 0 (mv+1) led ag (es.map (·.1))=_;unfold rD;rw[e]
  rfl
 have hp:=hO.perm;have Ct:((jy o).map (·.1)).length=es.size:=by rw[am,<-am (f:=λx:Nat×Nat=>x.2),hp.length_eq,be]
 have pm:((((jy o).map (·.2)).toArray).filterMap (es[·]?)).toList.Perm es.toList:=by
  rw[Array.toList_filterMap];refine(hp.filterMap _).trans (List.Perm.of_eq ?_);refine fV λi=>?_;have:∀n,n<=es.size->((bJ n).filterMap (es[·]?))=es.toList.take n:=λn=>by
   induction n with
   | zero=>intro _;rfl
   | succ n ih=>
    intro hn;rw[gP,gf,ih (zp1 hn),eG,df,List.filterMap_nil,bg];cases hx:es[n]? with
    | none=>rw[Array.getElem?_eq_none_iff] at hx;lia
    | some x=>rfl
  rw[this es.size (ar _),dj (by rw[aN];exact ar _)]
 refine⟨(jy o).map (·.1),((((jy o).map (·.2)).toArray).filterMap (es[·]?)),?_,pm,zhE o,Ct⟩;have hsz:((((jy o).map (·.2)).toArray).filterMap (es[·]?)).size=es.size:=by rw[<-aN,pm.length_eq,aN]
 have c1:coversAll ((jy o).map (·.2)).toArray es.size=ag:=List.isPerm_iff.mpr hp;have c2:(qn led 31 (mv+1) ((jy o).map (·.1))).fits ((((jy o).map (·.2)).toArray).filterMap (es[·]?)).size=ag:=by
  unfold n9 iO qn;dsimp only;rw[hsz,aK,Ct];simp only[beq_self_eq_true,fb,decide_eq_true_eq];show es.size+0<=31;exact zd 0x3f24028080006 rfl hl
 unfold relayAll;rw[er];dsimp only;rw[c1,c2]
 rfl
theorem zea(h0:0<=v)(h1:v<32768):pE v=v:=by
 have e:rawHash v=v:=by
  unfold rawHash;dsimp only;have h2:((v.natAbs:Nat):Int)%((2 ^ 61-1:Nat):Int)=v:=by rw[Int.natAbs_of_nonneg h0];exact oi h0 (lQ h1 (by decide))
  rw[h2,if_neg (show ¬v<0 by exact zv6 h0),if_neg (by simp only[beq_iff_eq];exact zsC h0)]
 unfold pE;rw[e,if_neg (by simp only[beq_iff_eq];exact zsC h0)]
def ux(es:List (Int×aD)):Prop:=∀e∈es,(0<=e.1/\e.1<32768)/\∃t,e.2 = .int e.1 t
noncomputable def y9(led:Bool)(m mv:Nat)(P:List Nat)(es:List (Int×aD))(ep:Nat):oz:={ cls:=.type "set",dict:=af,data:=.set es.toArray ep (qn led m mv P) }
structure vc(m:Nat)(P:List Nat)(es:List (Int×aD)):Prop where
 mask:m=7/\P.length<=4\/m=31/\P.length<=18
 up:kq P
 len:P.length=es.length
 isI:ux es
 nd:(es.map (·.1)).Nodup
def tz(led:Bool)(h:cI)(a:aH)(K:List Int):Prop:=∃m mv P es ep,vc m P es/\es.length<=K.length/\(∀k,k∈es.map (·.1)↔k∈K)/\h.get? a=ae (y9 led m mv P es ep)
theorem tz.at{led:Bool}{h h':cI}{a:aH}{K:List Int}(x:tz led h a K)(e:∀o,h.get? a=ae o->h'.get? a=ae o):tz led h' a K:=by
 obtain⟨m,mv,P,es,ep,h1,h2,h3,h4⟩:=x;exact⟨m,mv,P,es,ep,h1,h2,h3,e _ h4⟩
theorem vc.fits(h:vc m P es):(qn led m mv P).fits es.toArray.size=ag:=by
 unfold n9 iO qn;dsimp only;rw[aK,aK,h.len,beq_self_eq_true,fb,decide_eq_true_eq];have:=h.len;show es.length+0<=m
 rcases h.mask with⟨h1,h2⟩|⟨h1,h2⟩<;>(rw[h1,<-this];exact ap h2 (by decide))
theorem ux.elems(h:ux es):ElemsOf (lR prog w) es:=λe he=>by
 obtain⟨⟨h0,h1⟩,t,ht⟩:=h e he;exact⟨⟨e.1,by rw[ht];exact nE _ _ _ _,(zea h0 h1).symm⟩,by rw[ht];rfl⟩
section
variable{prog:Hk}{w:cV}{A:bn}{E:aD->ay->Prop}{s:ay}
theorem zqB(hT:vc m P es)(ho:s.heap.get? a=ae (y9 led m mv P es ep))
  (h:Q (es.toArray,ep,qn led m mv P) s):aI (bq prog w) A (setState a) Q E s:=
 wpAny_setState_of ho rfl hT.fits h
theorem zlz(h:ux es)(hn:nf (λe=>(lR prog w).is v e.2) es=af):v∉es.map (·.1):=λhm=>by
 obtain⟨e,he,rfl⟩:=List.mem_map.mp hm;obtain⟨_,t,ht⟩:=h e he;have:=List.findIdx?_eq_none_iff.mp hn e he;rw[ht,nE] at this;exact nbo this
theorem zlA(h:ux es)(hn:nf (λe=>(lR prog w).is v e.2) es=ae j):v∈es.map (·.1):=by
 obtain⟨hj,hp,_⟩:=List.findIdx?_eq_some_iff_getElem.mp hn;obtain⟨_,t,ht⟩:=h _ (cH hj);obtain⟨u,hu⟩:=Value.isInt_shape (show Value.isInt v _=ag from hp);rw[ht] at hu;cases hu;exact List.mem_map.mpr ⟨_,cH hj,rfl⟩
theorem zqY(hT:vc m P es)(hv:0<=v/\v<32768):∃P1 E7,layNew (qn led m mv P) es.toArray v (.int v t)=(E7,qn led m mv P1,ai,ai)/\E7.toList.Perm (es++[(v,.int v t)])/\kq P1/\P1.length=P.length+1:=by
 obtain⟨j,hfs,hj⟩:=zs2 (led:=led) (mv:=mv) hT.up (hT.mask.imp (λh=>⟨h.1,ap h.2 (by decide)⟩) λh=>⟨h.1,ap h.2 (by decide)⟩) hv.1 hv.2;have hI:(fZ es.toArray (bj P.toArray j) (v,hU v t)).toList.Perm (es++[(v,.int v t)]):=by
  have:=SetTable.insertAt_perm es.toArray (bj P.toArray j) (v,hU v t);rwa [aV] at this
 refine⟨wb P j,fZ es.toArray (bj P.toArray j) (v,hU v t),?_,hI,zht hT.up hj,zhs P j⟩;have D3:(fZ es.toArray (bj P.toArray j) (v,hU v t)).size=P.length+1:=by rw[<-aN,hI.length_eq,aq,aG,hT.len]
 have ft:(qn led m mv (wb P j)).fits (fZ es.toArray (bj P.toArray j) (v,hU v t)).size=ag:=by
  unfold n9 iO qn;dsimp only;rw[aK,zhs,D3,beq_self_eq_true,fb,decide_eq_true_eq];show P.length+1+0<=m
  rcases hT.mask with⟨rfl,h2⟩|⟨rfl,h2⟩<;>exact b6 (ap h2 (by decide))
 unfold layNew;rw[hfs];dsimp only;rw[zvr];dsimp only;unfold SetTable.orStandIn;rw[ft];rfl
theorem zqr{es:List (Int×aD)}{E7:List (Int×aD)}{v:Int}{t:Tok}{K:List Int}(hi:ux es)(nd:(es.map (·.1)).Nodup)(hm:∀k,k∈es.map (·.1)↔k∈K)(hv:0<=v/\v<32768)(hn:v∉es.map (·.1))(p:E7.Perm (es++[(v,.int v t)])):ux E7/\(E7.map (·.1)).Nodup/\∀k,k∈E7.map (·.1)↔k∈K++[v]:=by
 refine⟨λe he=>?_,?_,λk=>?_⟩
 .rcases List.mem_append.mp (p.mem_iff.mp he) with q|q
  .exact hi e q
  .rw[List.mem_singleton.mp q];exact⟨hv,t,rfl⟩
 .refine(p.map _).nodup_iff.mpr ?_;rw[aB];exact List.nodup_append.mpr ⟨nd,List.nodup_cons.mpr ⟨aZ,.nil⟩,λx hx y hy e=>hn (by have hy:y=v:=List.mem_singleton.mp hy;exact hy▸e▸hx)⟩
 .rw[(p.map _).mem_iff,aB,bM,bM,hm];rfl
theorem zs4{P P1:List Nat}(h:m=7/\P.length<=4\/m=31/\P.length<=18)(h7:P.length<=17)(hl:P1.length=P.length+1):((!false)&&(qn led m mv P1).tooFull)=decide (m=7/\P.length=4):=by
 unfold SetTable.tooFull iO qn;dsimp only;rw[aK,hl];show decide ((P.length+1+0)*5>=m*3)=_;refine decide_eq_decide.mpr ?_
 rcases h with⟨rfl,h2⟩|⟨rfl,h2⟩
 .exact(show ∀n,n<=4->((n+1+0)*5>=7*3↔(7=7/\n=4)) by decide +kernel) _ h2
 .exact(show ∀n,n<=17->((n+1+0)*5>=31*3↔(31=7/\n=4)) by decide +kernel) _ h7
theorem zsv{h:cI}(ho:h.get? a=ae (y9 led m mv P es ep)):(h.update a (Obj.putSet es' (qn led m' mv' P'))).get? a=ae (y9 led m' mv' P' es'.toList (ep+1)):=by
 rw[ge _ ho rfl];show ae (Obj.putSet _ _ (y9 led m mv P es ep))=_
 congr 1
theorem zuZ{K:List Int}{Q:Bool->ay->Prop}(hv:0<=v/\v<32768)(hK:K.length<=17)(hS:tz led s.heap a K)(h:∀b h',fG a s.heap h'->tz led h' a (K++[v])->Q b { s with heap:=h' }) :
  aI (bq prog w) A (setAddHashed a (.int v t) (pE v)) Q E s:=by
 obtain⟨m,mv,P,es,ep,hT,hl,hm,ho⟩:=id hS;have Jk:ElemsOf (lR prog w) es.toArray.toList:=hT.isI.elems;have hb:es.toArray.size<scanBound:=by rw[aK];unfold scanBound;exact cU (ap hl hK) (by decide)
 unfold setAddHashed setAddHashedIn;refine Hc (G9 (zqB hT ho ?_));dsimp only;rw[byScan_of (knd:=lR prog w) rfl hb Jk];simp only[↓reduceIte];unfold setAddByScan;refine G9 (G9 (He ?_));refine G9 (wpAny_setScan_of (knd:=lR prog w) (k:=v) (nE _ _ _ _) ho rfl hT.fits Jk ?_);cases hr:nf (λe=>(lR prog w).is v e.2) es.toArray.toList with
 | some j=>
  refine Ha (Ha ?_);have FV:=zlA hT.isI hr;refine h ai s.heap (Heap.SameBut.refl a s.heap) ⟨m,mv,P,es,ep,hT,by rw[aq];exact ap hl (bN _ _),λk=>?_,ho⟩;rw[hm,bM,bK];exact⟨.inl,λq=>q.elim id λe=>e▸(hm v).mp FV⟩
 | none=>
  have Ol:=zlz hT.isI hr;have h7:P.length<=17:=by rw[hT.len];exact ap hl hK
  rw[zea hv.1 hv.2];obtain⟨P1,E7,eL,p1,r1,l1⟩:=zqY (led:=led) (mv:=mv) (t:=t) hT hv;obtain⟨i1,nd1,m1⟩:=zqr hT.isI hT.nd hm hv Ol p1;have D3:E7.size=P.length+1:=by rw[<-aN,p1.length_eq,aq,aG,hT.len]
  have Pp:E7.toList.length<=(K++[v]).length:=by rw[p1.length_eq,aq,aq];exact eU hl _
  rw[eL];dsimp only;refine G9 (Ha ?_);refine G9 (cQ (a:=ag) (by rw[hashByValue_scannable 8 rfl];rfl) ?_);simp only[↓reduceIte];refine G9 (om ho rfl ?_ (by rw[D3,Hd];exact ap (b6 h7) (by decide)));have D7:=zsv (es':=E7) (m':=m) (mv':=mv) (P':=P1) ho;rw[zs4 hT.mask h7 l1]
  by_cases hc:m=7/\P.length=4
  .rw[H3 hc];obtain⟨rfl,hc⟩:=hc;simp only[↓reduceIte];rw[show SetTable.grown E7.size=20 by rw[D3,hc];rfl];obtain⟨P2,OJ,e2,p2,r2,l2⟩:=zrr (led:=led) (mv:=mv) (P:=P1) (es:=E7) (by rw[D3,hc];decide) (λe he=>(i1 e he).1);rw[e2];dsimp only;refine G9 (Ha ?_);refine G9 (om D7 rfl ?_ (by rw[<-aN,p2.length_eq,aN,D3,Hd];exact ap (b6 h7) (by decide)));refine Ha (Ha ?_);exact h ag _ ((bB s.heap a _).trans (bB _ a _)) ⟨31,mv+1,P2,OJ.toList,ep+1+1,⟨.inr ⟨rfl,by rw[l2,D3];exact b6 h7⟩,r2,by rw[l2,p2.length_eq,aN],λe he=>i1 e (p2.mem_iff.mp he),(p2.map _).nodup_iff.mpr nd1⟩,by rw[p2.length_eq];exact Pp,λk=>by rw[(p2.map _).mem_iff];exact m1 k,zsv D7⟩
  .rw[H0 hc];simp only[aT,↓reduceIte];refine Ha (Ha ?_);refine h ag _ (bB s.heap a _) ⟨m,mv,P1,E7.toList,ep+1,⟨?_,r1,l1.trans (D3.symm.trans (aN ..).symm),i1,nd1⟩,Pp,m1,D7⟩;rw[l1];exact hT.mask.imp (λh=>⟨h.1,im h.2 λq=>hc ⟨h.1,q⟩⟩) λh=>⟨h.1,b6 h7⟩
end
def yT(ns:List Int)(i:Nat)(v:aD):Prop:=∃t,v = .int (ns.getD i 0) t
structure vT(ns:List Int):Prop where
 rng:∀k∈ns,0<=k/\k<32768
 len:ns.length<=18
section
variable{prog:Hk}{w:cV}{A:bn}{R:pM->ay->Prop}{I:aH}{fp wr:List aH}{G:Array iQ->Array iQ->Prop}{P:Nat->aD->Prop}{St:Nat->ay->Prop}
theorem zs7(W:WalksS prog w A.in1 I fp wr G ns.length P St)(S)(GO:S∉fp)(hn:vT ns)(Ik:∀i v,P i v->yT ns i v) :
  ∀(k i:Nat) (s:ay),ns.length-i=k->i<=ns.length->St i s->tz led s.heap S (ns.take i)->
   (∀s',Moved (S::wr) G s s'->tz led s'.heap S ns->R (.ok (.ret .none)) s')->
   Hl (bq prog w) A (.builtin "set.update.loop" ⟨[.ref S,.ref I],[]⟩) R s:=by
 have KW:S∉wr:=λh=>GO (W.sub _ h);have Db:∀b∈wr,b∈S::wr:=λb hb=>al _ hb;intro k
 induction k with
 | zero=>
  intro i s hk hi GX hS hR;obtain rfl:i=ns.length:=zsE hk hi;rw[oJ] at hS;refine cD f8 ?_;rw[bZ dg _];show aI _ A.in1 (oF (.ref I) >>= _) _ _ s;refine G9 (W.done s _ _ GX λs' hm=>?_);exact Ha (hR s' (hm.mono Db) (hS.at λo e=>hm.heap S _ KW e))
 | succ k ih=>
  intro i s hk hi GX hS hR;refine cD f8 ?_;rw[bZ dg _];show aI _ A.in1 (oF (.ref I) >>= _) _ _ s;refine G9 (W.item i s _ _ (znj hk) GX λv s' hP Ig hm=>?_);obtain⟨t,rfl⟩:=Ik i v hP;have Cu:i<ns.length:=znj hk;have Ek:tz led s'.heap S (ns.take i):=hS.at λo e=>hm.heap S _ KW e;have hx:ns.getD i 0=ns[i]:=by rw[aF,aC Cu];rfl
  have MT:ns.take i++[ns[i]]=ns.take (i+1):=by rw[eG,aC Cu];rfl
  have Rh:=hn.len;rw[hx];show aI _ A.in1 (holding [hU (ns[i]) t] (setAdd S (.int (ns[i]) t)) >>= _) _ _ s';refine G9 (Hc ?_);unfold setAdd;refine Hc (G9 ((lR prog w).pyHash (k:=ns[i]) (nE _ _ _ _) ?_));refine zuZ (s:={ s' with toks:=s'.toks+1 }) (hn.rng _ (cH Cu)) (by rw[dt];exact ap (fj ..) (iC (aS Cu Rh))) Ek λb h' Es MC=>?_;rw[MT] at MC;refine Ha ⟨eu dg _,ih (i+1) _ (zr0 hk) (zkd Cu) (W.frame _ s' _ _ Ig (cG _) λc hc o e=>?_) MC λs'' IZ Je=>?_⟩
  .rw[Es.2 c (λh:c=S=>GO (by rw[<-h];exact hc))];exact e
  .refine hR s'' (Moved.trans W.gtrans ((hm.mono Db).then_heap (cG _) λc o hc e=>?_) IZ) Je;rw[Es.2 c (λh:c=S=>hc (by rw[h];exact aj))];exact e
end
section
variable{prog:Hk}{w:cV}{A:bn}{E:aD->ay->Prop}{s:ay}
noncomputable abbrev yk(w:cV):Bool:=!(w.params.followText "set-order")
noncomputable abbrev wz(w:cV):oz:={ cls:=.type "set",dict:=af,data:=.set #[] 0 (.fresh 0 0 (yk w)) }
theorem zu1(a)(h:Q₁ (.ref s.heap.objs.size) { s with heap:=s.heap.push (wz w) }) :
  Hl (bq prog w) A (.call (.builtin "set.__new__") ⟨[.type "set",a],[]⟩) (wants Q₁ E) s:=by
 refine gM ?_;show aI _ A.in1 (do gt "set.__new__" ⟨[.type "set",a],[]⟩;again (.builtin "set.__new__" ⟨[.type "set",a],[]⟩)) _ _ s;refine G9 (cQ (PySem.F.newCall_set_1 a) (Ha ⟨eu me _,cD PySem.F.entry_set_new ?_⟩));rw[bZ me _];unfold dM.«set.__new__» Builtin.Frozenset.newClass;have Db:=PySem.sub_set_self;obtain⟨hp,g,d,tk,os⟩:=s;dsimp only
 wp_walk
 refine oN (Ha ?_);dsimp only;simp only[newObj];refine G9 (wpAny_alloc (Ha ?_));exact Ha h
theorem zs6(hh:A.handled=af)(hl:s.heap.IsList l items)(hn:vT ns)(hsz:items.size=ns.length)(hi:∀(i:Nat) v,items[i]? = ae v->yT ns i v)(hS:s.heap.get? S=ae (wz w))(CL:S≠l)
  (h:∀h' tk,tz (yk w) h' S ns->(∀b o,b≠S->s.heap.get? b=ae o->h'.get? b=ae o)->R (.ok (.ret .none)) { s with heap:=h',toks:=tk }) :
  aI (bq prog w) A.in1 (dM.«set.__init__» ⟨[.ref S,.ref l],[]⟩)
   (λfin s'=>match fin with|.done f=>R (.ok f) s'|.again c'=>c'.quiet=ag/\Hl (bq prog w) A c' R s') (λe s'=>R (.error e) s') s:=by
 have hT:gy s (.ref S) "set":=⟨_,hS,rfl⟩
 obtain⟨ol,hol,HM,nl,hdl⟩:=id hl;obtain⟨ocls,odict,odata,oslots⟩:=ol;simp only at HM hdl;subst HM;subst hdl;have QW:=PySem.F.sub_list_set;have RU:=PySem.F.sub_list_frozenset;have PQ:(fq "list"==fq "dict")=ai:=by decide
 unfold dM.«set.__init__» noKeywords Builtin.Frozenset.updateFrom;generalize hPI:rX=PI
 wp_walk
 subst hPI;refine fQ hl (G9 (wpAny_runValue ?_));have EP:l<s.heap.objs.size:=aO hol;have Nc:S<s.heap.objs.size:=aO hS;have GO:S∉[s.heap.objs.size,l]:=by
  simp only[bR,aZ,or_false,not_or];exact⟨bl Nc,CL⟩
 refine zs7 (led:=yk w) (ns:=ns) (hsz▸(pU (by simpa using hh) _ l (bl EP) items).toS) S GO hn hi (ns.length-0) 0 _ rfl (aE _)
  ⟨⟨_,aM _ rfl,rfl,rfl⟩,(hl.push _)⟩ ⟨7,0,[],[],0,⟨.inl ⟨rfl,aE _⟩,.nil,rfl,(λ_ h=>nomatch h),.nil⟩,aE _,λk=>mK,az _ hS⟩ λs' hm Ek=>?_
 obtain⟨h',g',d',Ju,os'⟩:=s';have eg:g'=s.gens:=hm.gens;have ed:d'=s.drawn:=hm.drawn;have eo:os'=s.os:=hm.os;subst eg;subst ed;subst eo;show aI _ _ _ _ _ _;refine Ha (Ha (h h' Ju Ek λb o hb e=>?_));refine hm.heap b o ?_ (az _ e);simp only[bR,aZ,or_false,not_or];exact⟨hb,bl (aO e)⟩
theorem zu2(hh:A.handled=af)(hl:s.heap.IsList l items)(hn:vT ns)(hsz:items.size=ns.length)(hi:∀(i:Nat) v,items[i]? = ae v->yT ns i v)
  (h:∀(h':cI) (tk:Nat),tz (yk w) h' s.heap.objs.size ns->(∀b o,s.heap.get? b=ae o->h'.get? b=ae o)->Q (.ref s.heap.objs.size) { s with heap:=h',toks:=tk }) :
  aI (bq prog w) A (call (.type "set") [.ref l]) Q E s:=by
 obtain⟨c,tl,JF⟩:=PySem.F.called_set.mro;have JK:=PySem.F.called_set.made;have Db:=PySem.F.called_set.sub;refine lF (gM ?_);show aI _ _ (callAny (.type "set") _) _ _ _;refine Ha ⟨nj _ (by decide +kernel),cD iZ ?_⟩;rw[nq (m8 "set" [.ref l] []) rfl];have h1:=PySem.F.called_set.notType;have h2:=PySem.F.called_set.canCreate;have Qz:=PySem.F.typeCall_set_1 (.ref l)
 repeat (any_goals (first|assumption|wp_step))
 refine Hi (zu1 (.ref l) (E:=E) (Q₁:=λobj s₁=>obj = .ref s.heap.objs.size/\s₁={ s with heap:=s.heap.push (wz w) }) ⟨rfl,rfl⟩) λr s₁ hr=>?_;cases r with
 | error e=>exact hr
 | ok fl=>
  cases fl with
  | ret obj=>
   obtain⟨rfl,rfl⟩:=hr;have hS:(s.heap.push (wz w)).get? s.heap.objs.size=ae (wz w):=aM _ rfl;have hT:gy { s with heap:=s.heap.push (wz w) } (.ref s.heap.objs.size) "set":=⟨_,hS,rfl⟩
   have QO:=PySem.F.called_set.init.lookup;have HI:=PySem.F.called_set.init.bind (.ref s.heap.objs.size)
   repeat (any_goals (first|assumption|wp_step))
   refine Hi (gC (R:=wants (λr s₂=>r = .none/\∃h' tk,s₂={ s with heap:=h',toks:=tk }/\tz (yk w) h' s.heap.objs.size ns/\(∀b o,s.heap.get? b=ae o->h'.get? b=ae o)) E)
    PySem.F.called_set.init.plain PySem.F.entry_set_init (PySem.check_set_init_1 hT ?_)) λr₂ s₂ IX=>?_
   .have EP:l<s.heap.objs.size:=let ⟨_,ho,_⟩:=hl;aO ho;refine zs6 (s:={ s with heap:=s.heap.push (wz w) }) (by simpa using hh) (hl.push _) hn hsz hi hS (eW EP) λh' tk Ek hk=>⟨rfl,h',tk,rfl,Ek,λb o e=>hk b o (bl (aO e)) (az _ e)⟩
   .cases r₂ with
    | error e=>exact IX
    | ok fl₂=>
     cases fl₂ with
     | ret r=>
      obtain⟨rfl,h',tk,rfl,Ek,CO⟩:=IX
      repeat (any_goals (first|assumption|wp_step))
      exact h _ _ Ek CO
     | _=>exact IX.elim
  | _=>exact hr.elim
end
@[irreducible] noncomputable def yP(xs:List AV)(Q:zt)(U:su):Prop:=∃ns:List Int,xs=ns.map .int/\vT ns/\∀n:Nat,(n=ns.length↔ns.Nodup)->Q (.int n) U
def AC:tZ:=λd _ as Q U=>A.wU d (tM as λx=>zw (jq U x) λxs=>yP xs Q U)
theorem zpN{K L:List Int}(nd:L.Nodup)(h:∀k∈L,k∈K):L.length<=K.length:=by
 induction L generalizing K with
 | nil=>exact aE _
 | cons x L ih=>
  have hx:=h x aj;have:=ih (K:=K.erase x) (List.nodup_cons.mp nd).2 λk hk=>(gG λq:k=x=>(List.nodup_cons.mp nd).1 (q▸hk)).mpr (h k (al _ hk));rw[dJ hx] at this;have:=fY hx;rw[au];exact Nat.add_le_of_le_sub this (by assumption)
theorem zl2{K L:List Int}(nd:L.Nodup)(h:∀k,k∈L↔k∈K)(hl:L.length=K.length):K.Nodup:=by
 induction K generalizing L with
 | nil=>exact .nil
 | cons x K ih=>
  have hx:x∈L:=(h x).mpr aj;have hK:x∉K:=λq=>by
   have:=zpN nd λk hk=>(List.mem_cons.mp ((h k).mp hk)).elim (λe=>e▸q) id;rw[hl,au] at this;exact absurd this (Nat.not_succ_le_self _)
  refine List.nodup_cons.mpr ⟨hK,ih (L:=L.erase x) (nd.erase x) (λk=>?_) (by rw[dJ hx,hl];rfl)⟩;rw[nd.mem_erase_iff,h k,bR];exact⟨λq=>q.2.resolve_left q.1,λq=>⟨λe=>hK (e▸q),.inr q⟩⟩
theorem zu0{E:aD->ay->Prop}{s:ay}{K:List Int}{Q:aD->ay->Prop}(hK:K.length<=18)(hS:tz led s.heap a K)
  (h:∀(n:Nat) t tk,(n=K.length↔K.Nodup)->Q (.int n t) { s with toks:=tk }):aI (bq prog w) A (call (.builtin "len") [.ref a]) Q E s:=by
 obtain⟨m,mv,P,es,ep,hT,hl,hm,ho⟩:=hS;refine call_len_set ho (zu rfl rfl rfl) rfl hT.fits ?_ (h _ _ _ ⟨λe=>?_,λnd=>?_⟩)
 .rw[aK];exact dV (Int.ofNat_le.mpr (ap hl hK)) (by decide)
 .exact zl2 hT.nd hm (by rw[am];exact e)
 .refine fh hl ?_;have:=zpN nd λk hk=>(hm k).mpr hk;rwa [am] at this
theorem zh6(r:sw U h (ns.map .int) vs):∀(i:Nat) v,vs.toArray[i]? = ae v->yT ns i v:=by
 induction ns generalizing vs with
 | nil=>cases r;exact λi v e=>by simp at e
 | cons n ns ih=>
  cases r with
  | cons a r=>
   intro i v e;rw[dB] at e;cases i with
   | zero=>cases e;obtain⟨t,rfl⟩:=sv.wC a;exact⟨t,rfl⟩
   | succ i=>exact ih r i v (by rw[dB];exact e)
section
variable{X:Cx}{env:fB}{nm:List (b7×Nat)}
theorem zgI(XO:X.Ok)(EO:sF env)(hx:env.kindOf "len" = ae .globalImplicit)(hn:X.mg "len" = af)(hv:X.mb "len" = ae (.builtin "len"))
  (NS:env.kindOf "set" = ae .globalImplicit)(Nk:X.mg "set" = af)(MP:X.mb "set" = ae (.type "set"))(h:sL X env nm [e] [m]) :
  zi X env nm (.Call (.Name "len" gp) [.Call (.Name "set" gp2) [e] [] pos2] [] pos) (A.prim AC r [m]):=λd A l U s Q Z L a F q=>by
 refine oY (jd XO EO a hx (by decide) hn hv ?_);refine dh ?_ ?_
 .rw[zL rfl];rfl
 rw[zL rfl];refine d0 (bt (oY (jd XO EO a NS (by decide) Nk MP ?_)));refine eQ h.plain (qg h L a F q λvs s1 CE=>?_);refine zj CE λE9 σ1 rv a1 st q1=>?_;obtain⟨hd,q1⟩:=qw q1;refine za (jt q1) λx e1 q1=>?_;subst e1;refine za (zh q1) λxs Fv q1=>?_;unfold yP at q1;refine zl q1 λns I7 Eu q2=>?_;subst I7;refine za (qf rv) λv e2 Df=>?_;subst e2;refine zv (a1.isList (zZ Fv) Df) λp vs e3 hp hl rs hm=>?_;subst e3;have hh:=L.handled hd;have Ct:vs.toArray.size=ns.length:=by rw[aK,<-rs.length,am]
 refine zO (zu2 hh hl Eu Ct (zh6 rs) λh2 OI hS hk hsz=>?_);refine cy (zu0 Eu.len hS λn t tk hn=>?_);exact sB.back st (zq _ _ (.int _ _) (a1.grown tk hk) (.grown _ tk hk hsz) (q2 n hn))
end
@[irreducible] noncomputable def yz(xs:List AV)(Q:zt)(U:su):Prop:=∃fs:List (Nat×AV),xs=fs.map (λf=>.tup [.str f.1,f.2])/\fs.length<=100/\(fs.map (·.1)).Nodup/\∀D,U D=af->Q (.ref D) (U.set D (.idict fs))
noncomputable def AV.ref?(v:AV):=v.refE cP ae
theorem zrq{x:AV}(h:x.ref? = ae p):x = .ref p:=by
 cases x with
 | ref a=>exact congrArg AV.ref (Hz h)
 | _=>exact nos h
def Ai:tZ:=λd _ as Q U=>A.wU d (tM as λx=>zw x.ref? λp=>wm U p λxs=>yz xs Q U)
theorem zpg(r:sw U h (fs.map λf=>.tup [.str f.1,f.2]) vs):∃ps,SX U h ps fs/\vs.length=ps.length/\∀(i:Nat) v,vs[i]? = ae v->∃p,ps[i]? = ae p/\yY h h.objs.size [] p v:=by
 induction fs generalizing vs with
 | nil=>obtain rfl:=sw.wG r;exact⟨[],.nil,rfl,λi v e=>by simp at e⟩
 | cons f fs ih=>
  refine zm (sw.wF r) λu us CU ru rs=>?_;subst CU;refine zj (sv.wI ru) λb ws CP _ N7 tI=>?_;subst CP;obtain⟨o,ho,hc,n,hd⟩:=N7;refine zm (sw.wF tI) λk ws1 Dc rk r1=>?_;subst Dc;refine zm (sw.wF r1) λx ws2 Di rx r2=>?_;subst Di;obtain rfl:=sw.wG r2;refine za (sv.wL rk) λt Eg hk=>?_;subst Eg;refine zl (ih rs) λps sx hl hp=>zz ((zC f.1,x)::ps) (.cons hk rx sx) (by rw[au,au,hl]) (λi v e=>?_);cases i with
  | zero=>cases e;exact zed _ rfl b t n o rfl (bl (aO ho)) aZ ho hc hd
  | succ i=>exact hp i v e
theorem SX.nodup(t:SX U h ps fs)(nd:(fs.map (·.1)).Nodup):(ps.map (·.1)).Nodup:=by
 rw[t.keys];have wk:∀f∈fs,f.1<kW:=by
  clear nd
  induction t with
  | nil=>exact λ_ h=>nomatch h
  | cons hk _ _ ih=>exact λf hf=>(List.mem_cons.mp hf).elim (λe=>e▸hk) (ih f)
 clear t
 induction fs with
 | nil=>exact .nil
 | cons f fs ih=>
  rw[aY] at nd ⊢;obtain⟨n1,n2⟩:=List.nodup_cons.mp nd;refine List.nodup_cons.mpr ⟨λhm=>?_,ih n2 λg hg=>wk g (al _ hg)⟩;exact za (List.mem_map.mp hm) λg hg e=>n1 (List.mem_map.mpr (zf g hg (ko (wk g (al _ hg)) (wk f aj) e)))
theorem zif(XO:X.Ok):jc X (.type "dict") Ai:=λd A U s r as vs Q E L a rv q=>by
 obtain⟨hd,q⟩:=qw q;refine za (jt q) λx e1 q=>?_;subst e1;refine za (zh q) λp hp q=>?_;obtain rfl:=zrq hp;refine za (zc0 q) λxs hx q=>?_;unfold yz at q;obtain⟨fs,rfl,hl,nd,q⟩:=q;refine za (qf rv) λv e2 Df=>?_;subst e2;obtain rfl:=sv.wK Df;refine zm (a.rep _ _ (zH hx).1) λus n ho ru NT=>?_;obtain⟨ps,sx,ID,hpi⟩:=zpg ru;have PQ:=sx.nodup nd;have hb:s.heap.objs.size<=s.heap.objs.size:=ar _;have h0:=a.none_of_size hb;have uJ:X.h₀.get? s.heap.objs.size=af:=by
  cases h:X.h₀.get? s.heap.objs.size with
  | none=>rfl
  | some ob=>exact absurd (aO (a.keep _ _ h)) (Nat.not_lt.mpr hb)
 refine zO (zsU (L.handled hd) ho (by rw[sx.length];exact hl) (by rw[aK,ID]) (λi v e=>hpi i v (by rw[dB] at e;exact e)) λh' tk hD hk hsz=>?_);rw[merged_nil_of_nodup _ PQ] at hD;exact zq (.ref _) _ (.ref _) ((a.grown tk hk).adopt (ao:=.idict fs) h0 uJ (zdc a hb) λkv=>(qJ ps hD ((sx.mono (.ext hk)).mono kv) hl (zdE XO a))) ((Step.grown U tk hk hsz).adopt h0 hb) (by rw[jk rfl];exact q _ (jU h0))
noncomputable def zs3:oz:={ cls:=.none,dict:=af,data:=.freed,slots:=#[] }
noncomputable def xQ(h:cI)(p:aH)(o:oz)(i:Nat):oz:=if i=p then o else (h.get? i).getD zs3
noncomputable def wt(h:cI)(p:aH)(o:oz):cI:=⟨Array.ofFn (n:=fF h.objs.size (p+1)) λi=>xQ h p o i.1,h.life⟩
theorem zeH(h)(p)(o)(b):(wt h p o).objs[b]? = if b<fF h.objs.size (p+1) then ae (xQ h p o b) else af:=by
 unfold wt;rw[Array.getElem?_ofFn];split<;>rfl
theorem zcz(ho:o.isFreed=ai):(wt h p o).get? p=ae o:=
 Heap.get?_some_iff.mpr ⟨by rw[zeH,if_pos (aS (eY p) (iX _ _))];unfold xQ;rw[if_pos rfl],ho⟩
theorem ql(hb:b≠p):(wt h p o).get? b=h.get? b:=by
 cases e:h.get? b with
 | some x=>
  refine Heap.get?_some_iff.mpr ⟨?_,(Heap.get?_some_iff.mp e).2⟩;rw[zeH,if_pos (aS (aO e) (lW _ _))];unfold xQ;rw[if_neg hb,e];rfl
 | none=>
  cases e2:(wt h p o).get? b with
  | none=>rfl
  | some x=>
   obtain⟨h1,h2⟩:=Heap.get?_some_iff.mp e2;rw[zeH] at h1;split at h1
   .unfold xQ at h1;rw[if_neg hb,e] at h1;cases h1;exact nbo h2
   .exact nos h1
noncomputable def Cx.pin(X:Cx)(p:aH)(o:oz):Cx:=⟨X.prog,X.w,wt X.h₀ p o,X.os,X.mg,X.mb,X.fr,X.top⟩
noncomputable def su.cut(U:su)(p:aH):su:=λb=>if b=p then af else U b
theorem zha(U:su)(p):U.cut p p=af:=if_pos rfl
theorem zfZ(U:su)(h:b≠p):U.cut p b=U b:=if_neg h
theorem ky{U:su}{p b:aH}(h:U b=af):U.cut p b=af:=by
 unfold su.cut;split
 .rfl
 .exact h
section
variable{X:Cx}{U τ:su}{s t:ay}{p:aH}{o:oz}{fs:List (Nat×AV)}
theorem zdG(hp:X.h₀.get? p=af)(e:X.h₀.get? b=ae x):(wt X.h₀ p o).get? b=ae x:=
 (ql λq=>by rw[q,hp] at e;exact nos e).trans e
theorem Cx.Ok.pin(h:X.Ok)(hp:X.h₀.get? p=af):(X.pin p o).Ok:=⟨h.g.keeps λ_ _ e=>zdG hp e,h.b.keeps λ_ _ e=>zdG hp e,za h.nolimit λmc h1 h2=>(zf mc (h1.keeps λ_ _ e=>zdG hp e) h2)⟩
theorem zei(hp:U p=ae (.idict fs))(h):sA U h (U.cut p) h:=⟨λb x e _=>(zf x e (.inl rfl)),λb xs e=>(zfZ U λq=>by rw[q,hp] at e;cases e).trans e⟩
theorem zsh(a:At X U s)(hp:U p=ae (.idict fs))(hL:L∈X.fr):L≠p:=λq=>by have:=(a.ff L hL).1;rw[q,hp] at this;exact nso this
theorem At.pin(a:At X U s)(hp:U p=ae (.idict fs))(ho:s.heap.get? p=ae o):At (X.pin p o) (U.cut p) s:=by
 have ne:∀{b:aH} {x:AO},U.cut p b=ae x->b≠p/\U b=ae x:=λ{b x} e=>by
  by_cases h:b=p
  .rw[h,zha] at e;exact nos e
  .exact⟨h,(zfZ U h).symm.trans e⟩
 have hf:=(Heap.get?_some_iff.mp ho).2;refine⟨λb x e=>?_,λb x e=>?_,λb x e hr=>?_,a.gens,a.os,λL hL=>⟨ky (a.ff L hL).1,(a.ff L hL).2⟩⟩
 .by_cases h:b=p
  .subst h;exact ho.trans ((zcz (h:=X.h₀) hf).symm.trans e)
  .exact a.keep b x ((ql h).symm.trans e)
 .have r:=(a.rep b x (ne e).2).mono (zei hp s.heap) λ_ h=>h;cases x<;>exact r
 .exact(ql (ne e).1).trans (a.own b x (ne e).2 hr)
theorem FR.pin(F:FR X env nm l U s.heap)(hp:U p=ae (.idict fs)):FR (X.pin p o) env nm l (U.cut p) s.heap:=by
 have kv:=zei hp s.heap;have ne:∀{b:aH},U b=af->b≠p:=λe q=>by rw[q,hp] at e;exact nso e
 refine⟨za F.ns λm h1 h2=>(zf m h1 (λx i hx hk=>(h2 x i hx hk).mono kv)),λx i hx hk=>zm (F.cell x i hx hk) λc v h1 h2 h3=>(zP c v h1 h2 (h3.mono kv)),⟨ky F.out.1,(ql (ne F.out.1)).trans F.out.2⟩,F.nmok,F.len,λx c hx=>?_⟩;have h:=F.outc x c hx;exact zu (ky h.1) ((ql (ne h.1)).trans h.2.1) h.2.2
theorem sK.pin(L:sK X d A)(a:At X U s)(hp:U p=ae (.idict fs)):sK (X.pin p o) d A:=
 ⟨L.depth,L.units,L.handled,L.small,zl L.frames λenvs h1 h2 h3=>(zz envs h1 ⟨h2.is,λM hM=>(ql (zsh a hp hM)).trans (h2.out M hM)⟩ h3)⟩
theorem At.unpin(a:At X U s)(hp:U p=ae (.idict fs))(ho:s.heap.get? p=ae o)(b:At (X.pin p o) τ t)(hτ:τ p=af)(kv:sA U s.heap (τ.set p (.idict fs)) t.heap):At X (τ.set p (.idict fs)) t:=by
 have h0:=a.own p _ hp rfl;have hf:=(Heap.get?_some_iff.mp ho).2;have Ma:t.heap.get? p=ae o:=b.keep p o (zcz hf);have EU:sA τ t.heap (τ.set p (.idict fs)) t.heap:=(sA.ext λ_ _ e=>e).set (zeC hτ);refine⟨λc x e=>b.keep c x (zdG h0 e),λc x e=>?_,λc x e hr=>?_,b.gens,b.os,λL hL=>⟨?_,(b.ff L hL).2⟩⟩
 .by_cases h:c=p
  .subst h;rw[su.wA] at e;obtain rfl:=Hz e;exact(a.rep _ _ hp).mono kv λx hx=>by rw[ho] at hx;obtain rfl:=Hz hx;exact Ma
  .rw[su.wB _ _ h] at e;have r:=(b.rep c x e).mono EU λ_ h=>h;cases x<;>exact r
 .by_cases h:c=p
  .rw[h];exact h0
  .rw[su.wB _ _ h] at e;exact(ql h).symm.trans (b.own c x e hr)
 .rw[su.wB _ _ (zsh a hp hL)];exact(b.ff L hL).1
theorem Step.unpin(hp:U p=ae (.idict fs))(st:Step E0 (U.cut p) s τ t):Step E0 U s (τ.set p (.idict fs)) t:=by
 refine⟨λb x e h1=>st.keep b x e (ky h1),λb x e h1=>st.keepD b x e (ky h1),λb h1 h2=>?_,st.size,λb xs e=>?_⟩
 .have:b≠p:=λq=>by rw[q,hp] at h2;exact nso h2
  rw[su.wB _ _ this] at h1;exact st.fresh b h1 (ky h2)
 .have:b≠p:=λq=>by rw[q,hp] at e;cases e
  rw[su.wB _ _ this];exact st.frz b xs ((zfZ U this).trans e)
end
theorem SX.at(t:SX U h kvs fs):∀{i:Nat} {f:Nat×AV},fs[i]? = ae f->f.1<kW/\∃v,kvs[i]? = ae (zC f.1,v):=by
 induction t with
 | nil=>intro i f e;exact nos e
 | cons hk r t ih=>
  intro i f e;cases i with
  | zero=>cases e;exact zsk hk _ rfl
  | succ i=>exact ih e
section
variable{X:Cx}{A:bn}{target:Expr}{p it:aH}{o:oz}{kvs:List (b7×aD)}{fs:List (Nat×AV)}{ep:Nat}{g:cI}
theorem zlK(hh:A.handled=af)(Pk:X.h₀.get? p=ae o)(GA:g.get? p=ae o)(hg:g.DictAt (strKind X.prog X.w) p kvs ep) :
  tX X A target (.ref it) (λ_=>True) (fs.map λf=>.str f.1) (λc=>c=it) (λi U h=>h.IsKeyIter it p i kvs.length ep/\SX U h kvs fs) where
 stable:=λi U h U' h' hp kv k=>⟨hp.1.at λo e=>k _ _ rfl e,hp.2.mono kv⟩
 there:=λi U h c hp e=>zl hp.1 λo ho hc hd=>by subst e;exact zf o ho (sI.wE hc hd (by decide))
 item:=λi x U s Q Qn E GC hx a hI CD hW h=>by
  have hD:s.heap.DictAt (strKind X.prog X.w) p kvs ep:=hg.at' λx e=>by rw[GA] at e;obtain rfl:=Hz e;exact a.keep p _ Pk
  rw[bQ] at hx;refine za (Option.map_eq_some_iff.mp hx) λf hf e=>?_;subst e;refine znV (CD.2.at hf) λhn v hv=>zl (id CD.1) λo ho hc hd=>?_;have pl:=sI.wE hc hd (by decide);have nW:sH (λc=>c=it) s.heap:=λc o' e e'=>by subst e;rw[ho] at e';obtain rfl:=Hz e';exact pl.1
  have nd:∀b o,b=it->s.heap.get? b=ae o->∀es n,o.data≠.dict es n:=λc o' e e'=>by subst e;rw[ho] at e';obtain rfl:=Hz e';exact pl.2.1
  refine wpAny_pyNext_dict_item CD.1 hD hv λkey h' GN D8 Cz=>GC key _ (zl (id D8) λo' CM hc' DC=>?_);have hk:∀c o,¬c=it->s.heap.get? c=ae o->h'.get? c=ae o:=λc o hc e=>(Cz.2 c hc).trans e;have kv:sA U s.heap U h':=.mk' λc o' e st=>hk c o' (λq=>nW c o' q e st) e;obtain⟨tk,rfl⟩:=mR GN;exact ki CM hc' DC (by decide) (h _ { s with heap:=h' } (.str hn _) (a.moved (t:=s.toks) hW nW nd hk) (Step.moved U s.toks hk (bp Cz.1.symm)) ⟨D8,CD.2.mono kv⟩)
 done:=λU s Q E a hI CD hW h=>by
  have hD:s.heap.DictAt (strKind X.prog X.w) p kvs ep:=hg.at' λx e=>by rw[GA] at e;obtain rfl:=Hz e;exact a.keep p _ Pk
  refine zl (id CD.1) λo ho hc hd=>?_;have pl:=sI.wE hc hd (by decide);have nW:sH (λc=>c=it) s.heap:=λc o' e e'=>by subst e;rw[ho] at e';obtain rfl:=Hz e';exact pl.1
  have nd:∀b o,b=it->s.heap.get? b=ae o->∀es n,o.data≠.dict es n:=λc o' e e'=>by subst e;rw[ho] at e';obtain rfl:=Hz e';exact pl.2.1
  refine zO (wpAny_pyNext_dict_end hh CD.1 hD (cA (by rw[am,CD.2.length];exact ar _)) λh' EJ hsz=>?_);have hk:∀c o,¬c=it->s.heap.get? c=ae o->h'.get? c=ae o:=λc o hc e=>EJ c o hc e;exact h { s with heap:=h' } (a.moved (t:=s.toks) hW nW nd hk) (Step.moved U s.toks hk hsz)
 self:=λi U s Q E CD h=>wpAny_pyIter_keyiter CD.1 h
end
@[irreducible] noncomputable def yC(x:AV)(Q:zt)(U:su):Prop:=∃p fs,x = .ref p/\U p=ae (.idict fs)/\(∀f∈fs,∃xs,f.2 = .lst xs)/\(fs.map (·.1)).Nodup/\∀b,U b=af->Q (.ref b) (U.set b (.list (fs.map λf=>.tup [.str f.1,f.2])))
def A.cpD(j:Nat):AE:=λd l Q _ U=>A.wU d (zw (l.getD j af) λx=>yC x Q U)
def Bb(fs:List (Nat×AV))(p:aH)(i j:Nat):AE:=λ_ l Q _ U=>l.getD j af=ae (.ref p)/\∃n xs,l.getD i af=ae (.str n)/\kF fs n=ae (.lst xs)/\Q (.tup [.str n,.lst xs]) U
theorem zqi(CJ:i≠j){Q:List AV->su->Prop}(gs:List (Nat×AV)):∀(acc:List AV) (l:Loc),(∀g∈gs,kF fs g.1=ae g.2/\∃xs,g.2 = .lst xs)->l.getD j af=ae (.ref p)->i<l.length->acc.length+gs.length<=1000000->Q (acc++gs.map λg=>.tup [.str g.1,g.2]) τ->
  vn (λ_=>True) (.one i) af (Bb fs p i j) d Q (gs.map λg=>.str g.1) acc l τ:=by
 induction gs with
 | nil=>intro acc l _ _ _ _ q;rw[List.map_nil,bz] at q;exact q
 | cons g gs ih=>
  intro acc l hg hj hi hl q;refine znV (hg g aj) λh1 xs h2=>?_;rw[au] at hl;refine zf (l.set i (ae (.str g.1))) rfl ?_;have Mf:(l.set i (ae (.str g.1))).getD j af=ae (.ref p):=by rw[aF,List.getElem?_set_ne CJ,<-aF];exact hj
  refine ji Mf g.1 xs (by rw[aF,List.getElem?_set_self hi];rfl) (h2▸h1) trivial (aS (Nat.lt_add_of_pos_right (dG _)) hl) ?_;refine ih _ _ (λg h=>hg g (al _ h)) Mf (by rw[pA];exact hi) (by rw[aq,aG,cJ,lO 1];exact hl) ?_;rw[aR,<-h2];exact q
theorem zd9(nd:(fs.map (·.1)).Nodup)(h:f∈fs):kF fs f.1=ae f.2:=by
 induction fs with
 | nil=>cases h
 | cons g fs ih=>
  rw[aY] at nd;have ES:=List.nodup_cons.mp nd;show (bif ch g.1 f.1 then ae g.2 else kF fs f.1)=_;rw[zo5]
  rcases List.mem_cons.mp h with e|h
  .rw[<-e,H3 rfl];rfl
  .rw[H0 λe:g.1=f.1=>ES.1 (e▸b8 h)];exact ih ES.2 h
section
variable{X:Cx}{env:fB}{nm D4:List (b7×Nat)}{scope:Scope}{kk i j:Nat}{CS:List (b7×bC)}{w k:b7}
theorem zsR(XO:X.Ok)(E:EK env CS)(hw:nm.lookup w=ae i)(hk:nm.lookup k=ae j)(vk:v7 CS k=ag)(vw:CS.lookup w=ae .local)(dk:(k==("__debug__" : b7))=ai)(dw:(w==("__debug__" : b7))=ai)
  (gl:jQ CS "list" = ag)(hn:X.mg "list" = af)(hv:X.mb "list" = ae (.type "list"))(hD:s.heap.DictOf (strKind X.prog X.w) p kvs)(sx:SX U s.heap kvs fs)(L:sK X d A)(a:At X U s)(F:FR X env nm l U s.heap)(q:Bb fs p i j d l Q Z (sC U)) :
  aI X.M A (fm (.Tuple [.Name w p1,.Call (.Name "list" p2) [.Subscript (.Name k p3) (.Name w p4) p5] [] p6] tk p7) env) (sB X U s Q) (sE X U s Z) s:=by
 obtain⟨hj,n,xs,hi,hx,q⟩:=q;have kw:env.kindOf w=ae .local\/env.kindOf w=ae .cell:=.inl (E.loc (beq_iff_eq.mpr vw));refine Tuple_ (bt (lC (zcI E.eo F hw kw hi λv1 r1=>?_) dw));refine bt (oY (jd XO E.eo a (E.glob gl).1 (by decide) hn hv ?_));refine PyProof.Rows.callWith_type1 (bt (pX (lC (zcI E.eo F hk (E.var vk) hj λv2 r2=>?_) dk)));obtain rfl:=sv.wK r2;refine lC (zcI E.eo F hw kw hi λv3 r3=>?_) dw;refine za (sv.wL r3) λt3 II Rb=>?_;subst II
 rcases sx.get Rb with⟨_,h2⟩|⟨v,y,h1,h2,rv⟩
 .rw[hx] at h2;exact nso h2
 rw[hx] at h2;obtain rfl:=Hz h2;refine pY hD.mapOf.typeIs slot_dict_getitem.lookup (oG (zeg n t3) hD.mapOf h1 ?_) (zad rfl _ _);refine cy ?_;have hrv:∀tk,sw U ({ s with toks:=tk }:ay).heap [.lst xs] [v]:=λtk=>.cons rv .nil;refine Hb (zeY d A U _ ai [.lst xs] [v] (λv U'=>v = .lst xs/\U'=sC U) _ L (a.toks _) (.cons rv .nil) ⟨rfl,rfl⟩) (λu s2 CE=>?_) λ_ _ e=>e;refine zj CE λav σ2 r2 a2 Cy q2=>?_;obtain⟨rfl,q2⟩:=q2;refine cy ?_;have st:Step E0 U s σ2 s2:=(Step.toks U s _).trans Cy;exact jN st (zbe a2 (.cons (r1.mono (st.keepV0 a)) (.cons r2 .nil)) (ba rfl) (by rw[q2];exact q))
theorem zmL{wp kp pos:pJ}{tk:Nat}{p1 p2 p3 p4 p5 p6 p7:pJ}(XO:X.Ok)(EO:sF env)(CK:sV env.scope.names nm (jR nm) scope.names D4 kk)(HA:scope.kind = .function)(CX:nm.lookup k=ae j)(PX:env.kindOf k=ae .local\/env.kindOf k=ae .cell)(dk:(k==("__debug__" : b7))=ai)
  (E:∀C,EK (cY scope (tB env.cells scope.names []) C env) CS)(hw:D4.lookup w=ae i)(hk:D4.lookup k=ae j)(vk:v7 CS k=ag)(vw:CS.lookup w=ae .local)(dw:(w==("__debug__" : b7))=ai)
  (gl:jQ CS "list" = ag)(hn:X.mg "list" = af)(hv:X.mb "list" = ae (.type "list"))(OL:j<jR nm)(QQ:jR nm<=i)(NX:i<jR nm+kk) :
  zi X env nm (.ListComp (.Tuple [.Name w p1,.Call (.Name "list" p2) [.Subscript (.Name k p3) (.Name w p4) p5] [] p6] tk p7) [⟨.Name w wp,.Name k kp,[],0⟩] scope pos) (A.cpD j):=λd A l U s Q Z L a F q=>by
 obtain⟨hd,q⟩:=qw q;refine za (zh q) λx hl q=>?_;unfold yC at q;obtain⟨p,fs,rfl,hp,MQ,nd,q⟩:=q;have CN:=(zH hp).1;obtain⟨kvs,hD,sx,hl100,hsys⟩:=a.rep _ _ CN;obtain⟨ep,hDa⟩:=hD.dictAt;obtain⟨o,es,ho,_⟩:=id hDa;have Ma:=(Heap.get?_some_iff.mp ho).2;have h0:=a.own p _ CN rfl;refine fc (use:=af) rfl (q7 rfl) (kx (CK.closure F)) HA (zbd CK) (lC (zcI EO F CX PX hl λv r=>?_) dk);obtain rfl:=sv.wK r;refine wpAny_pyIter_dict hsys hDa ?_;generalize Dr:s.heap.objs.size=it;generalize hso:({ cls:=.type "dict_keyiterator",data:=.fields #[.ref p,.int 0 0,.int kvs.length 0,.int ep 0] }:oz)=io;have PZ:(s.heap.push io).get? it=ae io:=by rw[<-Dr];exact aM _ (by rw[<-hso];rfl)
 have K8:sA U s.heap U (s.heap.push io):=.push io;have a1:At X U { s with heap:=s.heap.push io }:=a.push io s.toks;have st1:Step E0 U s U { s with heap:=s.heap.push io }:=Step.push U s io s.toks;have F1:FR X env nm l U ({ s with heap:=s.heap.push io }:ay).heap:=F.step a st1;have D7:(s.heap.push io).get? p=ae o:=az _ ho;have aP:=a1.pin CN D7;have CJ:i≠j:=eW (aS OL QQ);have Ct:l.length=jR nm:=F.len;have Rf:=zei CN (s.heap.push io);refine zcO (X:=X.pin p o) (A:=A) (U:=U.cut p) (m:=Bb fs p i j) (c:=af) (t:=.one i) (Q:=λacc τ=>acc=fs.map (λf=>AV.tup [.str f.1,f.2])/\τ=sC (U.cut p)) (RR:=λacc C=>compPost X.M A (sE X U s Z) af (sB X U s Q) acc C) EO (L.pin a CN) hd aP (F1.pin CN) Ct CK HA
  (zlK (g:=s.heap.push io) (kvs:=kvs) (fs:=fs) (ep:=ep) (o:=o) (L.handled hd) (zcz Ma) D7 (hDa.push io)) ⟨(zz io PZ (by rw[<-hso]) (by rw[<-hso];rfl)),(sx.mono K8).mono Rf⟩ (λb hb=>?_) trivial
  (λC=>zeW (E C).eo hw (.inl ⟨(E C).loc (beq_iff_eq.mpr vw),λb hb=>hb⟩)) (λ_=>trivial) (λC i' l' U' s' Q' Z' CD a' F' q'=>?_) ?_ ?_
 .rw[hb];have:=jL a (b:=it) (by rw[Dr];exact ar _);exact⟨ky this.1,(ql λe=>by rw[<-e,this.1] at CN;exact nos CN).trans this.2.1⟩
 .have Ex:s'.heap.DictOf (strKind X.prog X.w) p kvs:=(hDa.at' λx e=>by rw[ho] at e;obtain rfl:=Hz e;exact a'.keep p _ (zcz Ma)).dictOf;exact zsR (X:=X.pin p o) (XO.pin h0) (E C) hw hk vk vw dk dw gl hn hv Ex CD.2 (L.pin a CN) a' F' q'
 .refine zqi CJ fs [] _ (λg hg=>⟨zd9 nd hg,MQ g hg⟩) ?_ ?_ ?_ ⟨rfl,rfl⟩
  .rw[aF,bE (by rw[Ct];exact OL),<-aF];exact hl
  .rw[aq,dA,Ct];exact NX
  .rw[bG,ci];exact ap hl100 (by decide)
 .intro D C s' U' acc mC Ds Ki hC Kb Jq Iw Eu DG a3 CI q3;refine zf mC Eu (λh' Cz=>?_);obtain⟨rfl,q3⟩:=q3;refine zm DG λys n DG Ft DQ=>?_;have KB:(X.pin p o).h₀.get? C=af:=(jL aP hC).2.1;have Lb:(X.pin p o).h₀.get? D=af:=(jL aP Ki).2.1;have EZ:C∉X.fr:=zdc (X:=X.pin p o) aP hC;have kv:sA U' s'.heap U' h':=.mk' λb o e st=>(Cz.2 b (by rintro rfl;exact jZ Eu o e st)).trans e;have a4:At (X.pin p o) U' { s' with heap:=h' }:=a3.aside (t:=s'.toks) (h':=h') Iw KB (jZ Eu) (λq=>absurd q EZ) Cz;have IE:h'.get? D=ae (zY ys n):=(Cz.2 D Kb).trans DG;have No:Step E0 (U.cut p) s (U.cut p) { s with heap:=s.heap.push io }:=Step.push _ s io s.toks;have DE:Step E0 (U.cut p) s U' { s' with heap:=h' }:=by
   have x2:=CI.weaken (B':=λb=>s.heap.objs.size<=b) λb hb=>by rw[show b=it from hb,Dr];exact ar _
   have x3:Step (λb=>s.heap.objs.size<=b) U' s' U' { s' with heap:=h' }:=Step.aside (t:=s'.toks) (h':=h') (ap No.size hC) Cz;have x1:=No.weaken (B':=λb=>s.heap.objs.size<=b) λb hb=>hb.elim;exact(x1.trans (x2.trans x3)).drop λb hb=>.inr hb
  have LW:s.heap.objs.size<=D:=ap No.size Ki;have Pt:D≠p:=eW (aS (aO ho) LW);have a5:At (X.pin p o) (U'.set D (.list (fs.map λf=>AV.tup [.str f.1,f.2]))) { s' with heap:=h' }:=a4.adopt Jq Lb Ds λEU=>(zP ys n IE ((Ft.mono kv).mono EU) DQ)
  have HC:=Step.unpin CN (DE.adopt (ao:=.list (fs.map λf=>AV.tup [.str f.1,f.2])) Jq LW);have hτ:(U'.set D (.list (fs.map λf=>AV.tup [.str f.1,f.2]))) p=af:=(su.wB _ _ (bO Pt)).trans (DE.gone ho (zha U p));have a7:=a.unpin CN ho a5 hτ (HC.keepV0 a);refine zq (.ref D) _ (.ref D) a7 HC ?_;have e:sC ((U'.set D (.list (fs.map λf=>AV.tup [.str f.1,f.2]))).set p (.idict fs))=(sC U).set D (.list (fs.map λf=>AV.tup [.str f.1,f.2])):=by
   rw[jk rfl,jk rfl,q3]
   funext b
   by_cases hb:b=p
   .rw[hb,su.wA,su.wB _ _ (bO Pt)];exact hp.symm
   .rw[su.wB _ _ hb]
    by_cases Fk:b=D
    .rw[Fk,su.wA,su.wA]
    .rw[su.wB _ _ Fk,su.wB _ _ Fk];unfold sC;rw[zfZ _ hb]
  rw[e];exact q D (jU (a.none_of_size LW))
end
structure CT where
 K:fE
 C:aH
 refs:List (Nat×Nat)
 names:List (b7×bC)
 nm:List (b7×Nat)
 ex:List (aH×List aH)
noncomputable def CT.r(c:CT)(p:pJ):Bool:=c.refs.any λq=>ch q.1 p.line&&ch q.2 p.col
noncomputable def yB(v:Option (Option aD)):Bool:=v.any Option.isNone
noncomputable def uM(K:fE)(names:List (b7×bC))(x:b7)(v:aD):Bool:=
 jQ names x&&yB (rC K Hn x)&&nR x==ae v&&!(x==("__name__" : b7))
structure uV where
 name:b7
 val:aD
 prim:tZ
noncomputable def uG:List uV:=[⟨"len",.builtin "len",jI⟩,⟨"range",.type "range",kO⟩,⟨"list",.type "list",xp⟩,⟨"tuple",.type "tuple",xX⟩,⟨"max",.builtin "max",xc⟩,⟨"min",.builtin "min",wv⟩,⟨"sum",.builtin "sum",xr⟩,⟨"sorted",.builtin "sorted",xw⟩,⟨"int",.type "int",yS⟩,⟨"abs",.builtin "abs",AY⟩,⟨"all",.builtin "all",Ab⟩]
noncomputable def yl:List (b7×uD):=[("tuple",.tuple),("int",.int),("bool",.bool),("list",.list)]
structure vg where
 name:b7
 id:String
 meth:vj
noncomputable def uA:List vg:=[⟨"append","list.append",zX⟩,⟨"pop","list.pop",yX⟩,⟨"clear","list.clear",vL⟩,⟨"remove","list.remove",Bg⟩]
def A.no:AE:=λ_ _ _ _ _=>False
def A.noI:AI:=λ_ _ _ _ _=>False
noncomputable def uJ:Nat:=0
noncomputable def vo:Nat:=uJ
noncomputable def xV:Nat:=vo
noncomputable def hh3:Nat:=xV
noncomputable def hh4:Nat:=hh3
noncomputable def hh5:Nat:=hh4
noncomputable def hh6:Nat:=hh5
noncomputable def hh7:Nat:=hh6
noncomputable def hh8:Nat:=hh7
noncomputable def hh9:Nat:=hh8
noncomputable def zyS:Nat:=hh9
noncomputable def zyT:Nat:=zyS
noncomputable def zyU:Nat:=zyT
noncomputable def zyV:Nat:=zyU
noncomputable def zyW:Nat:=zyV
noncomputable def zyX:Nat:=zyW
noncomputable def zyY:Nat:=zyX
noncomputable def zyZ:Nat:=zyY
noncomputable def zy0:Nat:=zyZ
noncomputable def zy1:Nat:=zy0
noncomputable def zy2:Nat:=zy1
noncomputable def zy3:Nat:=zy2
noncomputable def zy4:Nat:=zy3
noncomputable def zy5:Nat:=zy4
noncomputable def wk{β:Type}(z:β):β:=(λ_:Nat=>z) zy5
noncomputable def ck{β:Type}(z:β)(b:Bool)(m:β):β:=match b with|true=>m|false=>wk z
noncomputable def op{V β:Type}(z:β)(o:Option V)(f:V->β):β:=match o with|some a=>f a|none=>wk z
abbrev Go:=Expr->AE
noncomputable def C9(v:Option (Option aD)):Option Int:=v.bind λo=>o.bind λx=>@rE (λ_=>Option Int) x af af af (λ_=>af) (λi _=>ae i) (λ_ _=>af) (λ_ _=>af) (λ_ _=>af) (λ_=>af) (λ_=>af) λ_=>af
def AB(ct:CT)(x:b7):AE:=match v7 ct.names x&&!(x==("__debug__" : b7)) with|true=>op A.no (ct.nm.lookup x) A.loc|false=>ck A.no (jQ ct.names x) (op A.no (C9 (rC ct.K Hn x)) λi=>A.k (.int i))
def BD(c:Const):AE:=@rF (λ_=>AE) c (A.k .none) (λb=>A.k (.bool b)) (λi=>A.k (.int i)) (λ_=>A.no) (λ_ _=>A.no) (λs=>op A.no (kX s) λn=>A.k (.str n)) (λ_=>A.no) A.no
noncomputable def Ba(ops:List mZ)(es:List Expr):Bool:=match ops with
 | []=>ai
 | op::ops=>match es with
  | []=>ai
  | e::es=>match ops with|[]=>es.isEmpty&&!behindInMarks op e|_::_=>Ba ops es
noncomputable def AD(go:Go)(ops:List mZ)(es:List Expr):List (mZ×AE):=match ops with
 | []=>wk []
 | op::ops=>match es with|[]=>[]|e::es=>(op,go e)::AD go ops es
structure EV where
 n:Option b7
 t:Option (List Expr)
 s:Option (Expr×Expr)
 l:Option (Expr×List gA×Scope×pJ)
 c:Option (Expr×List Expr×List nY)
 a:Option (Expr×b7×pJ)
 z:Option (Option Expr×Option Expr×Option Expr)
 k:Option b7
noncomputable def tn:EV:=⟨af,af,af,af,af,af,af,af⟩
noncomputable def BR(c:Const):Option b7:=@rF (λ_=>Option b7) c af (λ_=>af) (λ_=>af) (λ_=>af) (λ_ _=>af) ae (λ_=>af) af
noncomputable def ev(e:Expr):EV:=@Expr.casesOn (λ_=>EV) e (λ_ _ _=>tn) (λ_ _ _=>tn) (λ_ _ _ _=>tn) (λ_ _ _=>tn) (λ_ _ _ _=>tn) (λ_ _ _ _=>tn) (λ_ _ _=>tn) (λ_ _ _=>tn) (λa g s p=>{ tn with l:=ae (a,g,s,p) }) (λ_ _ _ _=>tn) (λ_ _ _ _ _=>tn) (λ_ _ _ _=>tn) (λ_ _=>tn) (λ_ _=>tn) (λ_ _=>tn) (λ_ _ _ _=>tn) (λf es Eo _=>{ tn with c:=ae (f,es,Eo) }) (λ_ _ _ _=>tn) (λ_ _=>tn) (λc _ _=>{ tn with k:=BR c }) (λo x p=>{ tn with a:=ae (o,x,p) }) (λa i _=>{ tn with s:=ae (a,i) }) (λ_ _=>tn) (λx _=>{ tn with n:=ae x }) (λ_ _=>tn) (λes _ _=>{ tn with t:=ae es }) (λlo hi st _=>{ tn with z:=ae (lo,hi,st) })
noncomputable def B6(o:Expr):Bool:=((ev o).n.isSome||(ev o).a.isSome)||((ev o).s.isSome||(ev o).c.any λq=>(ev q.1).a.isSome)
def AR(go:Go)(r:Bool)(x:AE)(i:Expr):AE:=match (ev i).z with
 | some q=>(match q.2.2 with
  | none=>A.wZ r x (q.1.map go) (q.2.1.map go)
  | some _=>A.no)
 | none=>ck A.no (Bc i) (A.idx x (go i))
noncomputable def yJ(ks:List (Option Expr))(vs:List Expr):Bool:=match ks with
 | []=>vs.isEmpty
 | k::ks=>match vs with|[]=>ai|_::vs=>k.isSome&&yJ ks vs
noncomputable def B0(go:Go)(ks:List (Option Expr))(vs:List Expr):List (AE×AE):=match ks with
 | []=>[]
 | k::ks=>match vs with|[]=>[]|v::vs=>(op A.no k go,go v)::B0 go ks vs
noncomputable def yE(e:Option Expr):Bool:=(e.bind λe=>(ev e).k).isSome
def AW(go:Go)(r:Bool)(ks:List (Option Expr))(vs:List Expr):AE:=
 match (match ks with|[]=>r|_::_=>ks.all yE)&&ly ks.length 15&&yJ ks vs with
 | true=>A.dic (B0 go ks vs)
 | false=>match ks with
  | []=>ck A.no vs.isEmpty A.dT0
  | k::ks=>match vs with|[]=>A.no|v::vs=>ck A.no (ks.isEmpty&&vs.isEmpty) (op A.no k λk=>A.dT1 (go k) (go v))
noncomputable def kM(e:Expr):Option b7:=(ev e).n
noncomputable def yL(ok:b7->Bool)(nm:List (b7×Nat))(e:Expr):Option Nat:=(kM e).bind λx=>if ok x then nm.lookup x else af
noncomputable def BX(ok:b7->Bool)(nm:List (b7×Nat))(es:List Expr):Option (List Nat):=match es with|[]=>ae []|e::es=>(yL ok nm e).bind λi=>(BX ok nm es).map λis=>i::is
noncomputable def yw(ok:b7->Bool)(nm:List (b7×Nat))(e:Expr):Option uF:=match (ev e).t with|some es=>(BX ok nm es).map .many|none=>(yL ok nm e).map .one
noncomputable def xU(e:Expr):Option (b7×List Expr×List nY):=(ev e).c.bind λq=>(kM q.1).map λx=>(x,q.2)
noncomputable def B3(e:Expr):Option Expr:=(xU e).bind λp=>match p.2.1 with|[]=>af|a::r=>if r.isEmpty&&p.2.2.isEmpty&&p.1==("enumerate" : b7) then ae a else af
def yI(go:Go)(ct:CT)(target iter:Expr):AI:=match B3 iter with|none=>A.itP (go iter)|some e=>ck A.noI (uM ct.K ct.names "enumerate" (.type "enumerate")&&jo e&&(ev target).t.isSome) (A.itE (go e))
noncomputable def CT.inn(ct:CT)(ns:List (b7×bC)):CT:=⟨ct.K,ct.C,ct.refs,Aa ct.names ns,zV ct.nm (jR ct.nm) ns,ct.ex⟩
noncomputable def BN(ifs:List Expr):Bool:=ly ifs.length 1
noncomputable def BB(go:Go)(ifs:List Expr):Option AE:=match ifs with|[]=>af|e::_=>ae (go e)
noncomputable def BY(ct:CT)(g:gA)(scope:Scope):Bool:=g.is_async==0&&Ad ct.names ct.nm (jR ct.nm) scope.names&&scope.kind==.function&&xT g.iter&&BN g.ifs
def Av(go:CT->Go)(ct:CT)(r:Bool)(elt:Expr)(gens:List gA)(scope:Scope):AE:=match gens with
 | []=>A.no
 | g::gs=>ck A.no (gs.isEmpty&&BY ct g scope) (op A.no (yw (λx=>(ct.inn scope.names).names.lookup x==ae .local) (ct.inn scope.names).nm g.target) λt=>
   A.lc r (yI (go ct) ct g.target g.iter) t (x9 scope.names) (BB (go (ct.inn scope.names)) g.ifs) (go (ct.inn scope.names) elt))
noncomputable def vy(v:Option (Option aD)):Option aH:=v.bind λo=>o.bind λx=>@rE (λ_=>Option aH) x af af af (λ_=>af) (λ_ _=>af) (λ_ _=>af) (λ_ _=>af) (λ_ _=>af) (λ_=>af) (λ_=>af) ae
noncomputable def zuM(ct:CT)(T:b7):Option aD:=if jQ ct.names T then (match vy (rC ct.K Hn T) with
 | some C=>ae (.ref C)
 | none=>if uM ct.K ct.names T (.type "ValueError") then ae (.type "ValueError") else af) else af
noncomputable def Ak(ct:CT)(v:aD):List (aH×Bool):=ct.ex.filterMap λp=>(kitOne ct.K (.ref p.1) v).map λb=>(p.1,b)
def C2(go:Go)(ct:CT)(es:List Expr):AE:=match es with
 | []=>A.no
 | e::es=>match es with
  | []=>A.no
  | c::es=>ck A.no (uM ct.K ct.names "isinstance" (.builtin "isinstance")&&jo e&&es.isEmpty) (op A.no (kM c) λT=>match yl.lookup T with
   | some t=>ck A.no (uM ct.K ct.names T (.type t.name)) (A.isa t (go e))
   | none=>op A.no (zuM ct T) λv=>A.isx (Ak ct v) (go e))
def zyM(X:Cx)(K:fE)(C:aH)(ms:List AE):AE:=
 ck A.no (keepIn K (.ref C)&&makesIn K C) (op A.no (vy (fT K (.ref C) "__init__")) λfI=>ck A.no (typeIn K (.ref fI)==ae (.type "function")) (A.new X C fI ms))
noncomputable def Bq{V:Type}(l:List V):Option (V×V):=match l with
 | []=>af
 | a::r=>match r with|[]=>af|b::r=>if r.isEmpty then ae (a,b) else af
noncomputable def xv{V:Type}(l:List V):Option V:=match l with|[]=>af|a::r=>if r.isEmpty then ae a else af
noncomputable def B2(g o i:b7)(es:List Expr):Option Expr:=(xv es).bind λa=>(xU a).bind λp=>(xv p.2.1).bind λb=>if g==o&&p.1==i&&p.2.2.isEmpty&&jo b then ae b else af
noncomputable def Bj(elt:Expr)(g:gA):Option (b7×b7):=(kM g.target).bind λw=>(kM g.iter).bind λk=>(ev elt).t.bind λes=>(Bq es).bind λab=>(xU ab.2).bind λp=>(xv p.2.1).bind λc=>(ev c).s.bind λq=>
 if kM ab.1==ae w&&kM q.1==ae k&&kM q.2==ae w&&p.1==("list" : b7)&&p.2.2.isEmpty then ae (w,k) else af
noncomputable def zyQ(ct:CT)(g:gA)(scope:Scope)(w k:b7)(i j:Nat):Bool:=BY ct g scope&&g.ifs.isEmpty&&uM ct.K ct.names "dict" (.type "dict")&&uM ct.K (ct.inn scope.names).names "list" (.type "list")&&v7 ct.names k&&!(k==("__debug__" : b7))&&!(w==("__debug__" : b7))&&
 (ct.inn scope.names).nm.lookup k==ae j&&v7 (ct.inn scope.names).names k&&(ct.inn scope.names).names.lookup w==ae .local&&iB j (jR ct.nm)&&ly (jR ct.nm) i&&iB i (jR ct.nm+x9 scope.names)
def BF(ct:CT)(es:List Expr):AE:=op A.no ((xv es).bind λe=>(ev e).l) λq=>op A.no (xv q.2.1) λg=>op A.no (Bj q.1 g) λn=>op A.no ((ct.inn q.2.2.1.names).nm.lookup n.1) λi=>op A.no (ct.nm.lookup n.2) λj=>
 ck A.no (zyQ ct g q.2.2.1 n.1 n.2 i j) (A.prim Ai ai [A.cpD j])
def B7(X:Cx)(go:Go)(ct:CT)(g:b7)(es:List Expr)(pos:pJ):AE:=match g==("isinstance" : b7) with
 | true=>C2 go ct es
 | false=>match B2 g "len" "set" es with
 | some e=>ck A.no (uM ct.K ct.names "len" (.builtin "len")&&uM ct.K ct.names "set" (.type "set")) (A.prim AC ai [go e])
 | none=>match g==("dict" : b7) with
 | true=>BF ct es
 | false=>ck A.no (es.all jo) (match uG.find? (λp=>p.name==g) with
  | some p=>ck A.no (uM ct.K ct.names g p.val) (A.prim p.prim (ct.r pos) (es.map go))
  | none=>ck A.no (jQ ct.names g) (op A.no (vy (rC ct.K Hn g)) λf=>match (vR ct.K f).isSome with
   | true=>A.wD X f (es.map go)
   | false=>zyM X ct.K f (es.map go)))
def Bu(X:Cx)(go:Go)(ct:CT)(g:b7)(es:List Expr)(kw:nY)(pos:pJ):AE:=match es with
 | []=>A.no
 | e::es=>ck A.no (g==("sorted" : b7)&&kw.arg==ae ("key" : b7)&&uM ct.K ct.names "sorted" (.builtin "sorted")&&jo e&&es.isEmpty) (op A.no (kM kw.value) λk=>match k==("len" : b7) with
  | true=>ck A.no (uM ct.K ct.names "len" (.builtin "len")) (A.w2 (ct.r pos) (go e))
  | false=>ck A.no (jQ ct.names k) (op A.no (vy (rC ct.K Hn k)) λf=>ck A.no (vR ct.K f).isSome (A.w9 X f (ct.r pos) (go e))))
def Ch(X:Cx)(go:Go)(ct:CT)(o:Expr)(name:b7)(Dz:pJ)(es:List Expr)(pos:pJ):AE:=
 ck A.no (B6 o&&Dz.endLine==pos.line&&decide (es.length<30)&&es.all jo) (match uA.find? (λm=>m.name==name) with
  | some m=>A.meth m.meth (go o) (es.map go)
  | none=>ck A.no (nU ct.K ct.C name) (op A.no (vy (fT ct.K (.ref ct.C) name)) λf=>ck A.no (s9 ct.K (.ref f)&&(vR ct.K f).isSome) (A.wJ X ct.C (kX name) f (go o) (es.map go))))
def Cg(go:Go)(ct:CT)(o:Expr)(name:b7):AE:=
 ck A.no (B6 o&&nU ct.K ct.C name&&li ct.K ct.C&&yB (fT ct.K (.ref ct.C) name)) (op A.no (kX name) λn=>A.wT ct.C n (go o))
def AP(X:Cx)(go:Go)(ct:CT)(f:Expr)(es:List Expr)(Eo:List nY)(pos:pJ):AE:=match (ev f).n with
 | some g=>(match Eo with
  | []=>B7 X go ct g es pos
  | kw::r=>ck A.no r.isEmpty (Bu X go ct g es kw pos))
 | none=>op A.no (ev f).a λq=>ck A.no Eo.isEmpty (Ch X go ct q.1 q.2.1 q.2.2 es pos)
def cUn(o:UnaryOp)(m:AE):AE:=match o with|.USub=>A.neg m|.Not=>A.wO m|_=>A.no
def cBo(o:BoolOp)(ms:List AE):AE:=match o with|.And=>kr ms|.Or=>tK ms
def cE(X:Cx)(n:Nat)(ct:CT)(e:Expr):AE:=match n with|0=>A.no|n+1=>@Expr.casesOn (λ_=>AE) e (λo es _=>cBo o (es.map (cE X n ct))) (λ_ _ _=>A.no) (λa o b pos=>A.bin (ct.r pos) o (cE X n ct a) (cE X n ct b)) (λo a _=>cUn o (cE X n ct a)) (λ_ _ _ _=>A.no) (λ_ _ _ _=>A.no) (λks vs pos=>AW (cE X n ct) (ct.r pos) ks vs) (λ_ _ _=>A.no) (λelt gens scope pos=>Av (cE X n) ct (ct.r pos) elt gens scope) (λ_ _ _ _=>A.no) (λ_ _ _ _ _=>A.no) (λ_ _ _ _=>A.no) (λ_ _=>A.no) (λ_ _=>A.no) (λ_ _=>A.no) (λa ops es _=>ck A.no (Ba ops es) (A.cmp (cE X n ct a) (AD (cE X n ct) ops es))) (λf es Eo pos=>AP X (cE X n ct) ct f es Eo pos) (λ_ _ _ _=>A.no) (λ_ _=>A.no) (λc _ _=>BD c) (λo name _=>Cg (cE X n ct) ct o name) (λa i pos=>AR (cE X n ct) (ct.r pos) (cE X n ct a) i) (λ_ _=>A.no) (λx _=>AB ct x) (λes pos=>ck A.no (es.all jo) (A.lst (ct.r pos) (es.map (cE X n ct)))) (λes _ _=>ck A.no (es.all jo) (A.tup (es.map (cE X n ct)))) (λ_ _ _ _=>A.no)
def Be(X:Cx)(n:Nat)(ct:CT)(t v:Expr):AS:=match (ev t).n with
 | some x=>ck A.wH (v7 ct.names x) (op A.wH (ct.nm.lookup x) λi=>(match (ev v).l with
   | some q=>A.set i (Av (cE X n) ct (ct.r q.2.2.2) q.1 q.2.1 q.2.2.1)
   | none=>ck A.wH (AL v) (A.set i (cE X n ct v))))
 | none=>match (ev t).a with
  | some q=>ck A.wH (fT ct.K (.ref ct.C) "__setattr__"==ae (ae (.builtin "object.__setattr__"))&&rN ct.K ct.C&&yB (takerIn ct.K ct.C q.2.1)&&li ct.K ct.C)
   (op A.wH (kX q.2.1) λk=>A.wW ct.C k (cE X n ct q.1) (cE X n ct v))
  | none=>op A.wH (ev t).s λq=>A.wR (cE X n ct v) (cE X n ct q.1) (cE X n ct q.2)
noncomputable def Bk(e:Expr):Option b7:=(xU e).bind λp=>match p.2.1 with|[]=>af|a::r=>if yE (ae a)&&r.isEmpty&&p.2.2.isEmpty then ae p.1 else af
noncomputable def BK(e c:Option Expr):Option b7:=match c with|none=>e.bind Bk|some _=>af
noncomputable def Ck(hs:List ExceptHandler):Option (b7×Option b7×iR×List iR):=match hs with
 | []=>af
 | .ExceptHandler t name body _::r=>if r.isEmpty then t.bind λt=>(kM t).bind λT=>(match body with
  | []=>af
  | b0::bs=>ae (T,name,b0,bs)) else af
def zsN(ct:CT)(x:b7):AS:=ck A.wH (jQ ct.names x) (op A.wH (vy (rC ct.K Hn x)) λC=>ck A.wH (ct.ex.lookup C).isSome (A.wV C))
noncomputable def zyH(ct:CT)(name:Option b7):Option (Option Nat):=match name with|none=>ae af|some n=>if ct.names.lookup n==ae NameKind.local then (ct.nm.lookup n).map ae else af
noncomputable def zs8(ct:CT)(C':aH):List aH:=(ct.ex.filter λp=>(cO p.1::(p.2.map cO++ut)).contains (.ref C')).map (·.1)
def zyN(ct:CT)(T:b7)(name:Option b7)(x y:AS):AS:=ck A.wH (jQ ct.names T) (op A.wH (vy (rC ct.K Hn T)) λC'=>ck A.wH (ct.ex.lookup C').isSome (op A.wH (zyH ct name) λi=>A.vE x (zs8 ct C') i y))
def vX(f:iR->AS)(ss:List iR):AS:=ss.foldr (λs r=>A.cons (f s) r) (wk A.nil)
def cS(X:Cx)(n:Nat)(ct:CT)(s:iR):AS:=match n with|0=>A.wH|n+1=>@rS (λ_=>AS) s (λ_ _ _ _ _ _ _ _ _ _=>A.wH) (λ_ _ _ _ _ _ _ _ _ _=>A.wH) (λ_ _ _ _ _ _ _ _ _ _ _=>A.wH) (λv _=>v.elim A.vI λe=>A.ret (cE X n ct e)) (λ_ _=>A.wH) (λts v _=>op A.wH ts.head? λt=>ck A.wH ts.tail.isEmpty (Be X n ct t v)) (λ_ _ _ _ _ _ _=>A.wH) (λ_ _ _ _=>A.wH) (λ_ _ _ _ _=>A.wH) (λtg it a b _=>ck A.wH (b.isEmpty&&xT it) (op A.wH (yw (v7 ct.names) ct.nm tg) λt=>A.fr (yI (cE X n ct) ct tg it) t (vX (cS X n ct) a))) (λ_ _ _ _ _=>A.wH) (λt a b _=>ck A.wH b.isEmpty (A.w3 (cE X n ct t) (vX (cS X n ct) a))) (λt a b _=>A.if_ (cE X n ct t) (vX (cS X n ct) a) (vX (cS X n ct) b)) (λ_ _ _=>A.wH) (λ_ _ _=>A.wH) (λ_ _ _=>A.wH) (λe c _=>op A.wH (BK e c) (zsN ct)) (λbody hs DD fin _=>op A.wH (Ck hs) λq=>ck A.wH (DD.isEmpty&&fin.isEmpty) (zyN ct q.1 q.2.1 (vX (cS X n ct) body) (vX (cS X n ct) (q.2.2.1::q.2.2.2)))) (λ_ _ _ _ _=>A.wH) (λ_ _ _=>A.wH) (λ_ _=>A.wH) (λ_ _ _ _=>A.wH) (λ_ _=>A.wH) (λ_ _=>A.wH) (λe _=>ck A.wH (AL e) (A.ex (cE X n ct e))) (λ_=>A.wH) (λ_=>A.wH) (λ_=>A.wH)
noncomputable def cF(X:Cx)(K:fE)(C:aH)(ex:List (aH×List aH))(f:aH)(refs:List (Nat×Nat))(ps:List b7)(nm:List (b7×Nat)):Option AS:=(vR K f).bind λfd=>match fd.body with
 | .stmts body=>if fd.closure.isEmpty&&fd.globals==Hn&&fd.builtins==lB&&codeIn K fd.code fd.qualname&&AN fd.scope.names nm ps&&fd.scope.kind==.function&&!fd.scope.isCoroutine&&!fd.scope.isGenerator then
   ae (vX (cS X 40 ⟨K,C,refs,fd.scope.names,nm,ex⟩) body) else af
 | _=>af
theorem zbP{V:Type}{x:Option V}{b:V}(h:(if c then x else af)=ae b):c=ag/\x=ae b:=by
 cases c with
 | true=>exact⟨rfl,h⟩
 | false=>exact nos h
theorem zG(h:(a&&b)=ag):a=ag/\b=ag:=Bool.and_eq_true_iff.mp h
theorem zmr(h:(!a)=ag):a=ai:=by cases a with|true=>exact nob h|false=>rfl
theorem qW{V:Type}{l:List V}(h:l.isEmpty=ag):l=[]:=List.isEmpty_iff.mp h
theorem j6{V β:Type}{o:Option V}{f:V->Option β}{b:β}(h:o.bind f=ae b):∃a,o=ae a/\f a=ae b:=Option.bind_eq_some_iff.mp h
theorem zmi{V β:Type}{o:Option V}{f:V->β}{b:β}(h:o.map f=ae b):∃a,o=ae a/\f a=b:=Option.map_eq_some_iff.mp h
theorem zW{β:Type}{z m:β}{S:β->Prop}(hz:S z)(h:b=ag->S m):S (ck z b m):=by cases b with|true=>exact h rfl|false=>exact hz
theorem js{V β:Type}{z:β}{o:Option V}{f:V->β}{S:β->Prop}(hz:S z)(h:∀a,o=ae a->S (f a)):S (op z o f):=by cases o with|some a=>exact h a rfl|none=>exact hz
section
variable{X:Cx}{env:fB}{ct:CT}
theorem zcZ(h:yB v=ag):v=ae af:=by
 cases v with
 | none=>exact nob h
 | some o=>cases o with|none=>rfl|some x=>exact nob h
theorem kQ(h:vy v=ae f):v=ae (ae (.ref f)):=by
 cases v with
 | none=>exact nos h
 | some o=>cases o with
  | none=>exact nos h
  | some x=>cases x with|ref a=>exact congrArg (λa=>ae (ae (cO a))) (Hz h)|_=>exact nos h
theorem zop(h:C9 v=ae i):∃t,v=ae (ae (.int i t)):=by
 cases v with
 | none=>exact nos h
 | some o=>cases o with
  | none=>exact nos h
  | some x=>cases x with|int a t=>exact⟨t,congrArg (λa=>ae (ae (hU a t))) (Hz h)⟩|_=>exact nos h
structure ye(e:Expr)(v:EV):Prop where
 n:∀x,v.n=ae x->∃p,e = .Name x p
 t:∀es,v.t=ae es->∃k p,e = .Tuple es k p
 s:∀q,v.s=ae q->∃p,e = .Subscript q.1 q.2 p
 l:∀q,v.l=ae q->e = .ListComp q.1 q.2.1 q.2.2.1 q.2.2.2
 c:∀q,v.c=ae q->∃p,e = .Call q.1 q.2.1 q.2.2 p
 a:∀q,v.a=ae q->e = .Attribute q.1 q.2.1 q.2.2
 z:∀q,v.z=ae q->∃p,e = .Slice q.1 q.2.1 q.2.2 p
 k:∀t,v.k=ae t->∃k p,e = .Constant (.str t) k p
theorem zaA(e):ye e tn:=⟨λ_ h=>nos h,λ_ h=>nos h,λ_ h=>nos h,λ_ h=>nos h,λ_ h=>nos h,λ_ h=>nos h,λ_ h=>nos h,λ_ h=>nos h⟩
theorem zm8(h:BR c=ae t):c = .str t:=by
 cases c with
 | str x=>exact congrArg Const.str (Hz h)
 | _=>exact nos h
theorem qh(e):ye e (ev e):=by
 cases e with
 | Name x p=>exact { zaA (.Name x p) with n:=λy h=>⟨p,by rw[Hz h]⟩ }
 | Tuple es k p=>exact { zaA (.Tuple es k p) with t:=λy h=>⟨k,p,by rw[Hz h]⟩ }
 | Subscript a i p=>exact { zaA (.Subscript a i p) with s:=λy h=>⟨p,by rw[<-Hz h]⟩ }
 | ListComp a g s p=>exact { zaA (.ListComp a g s p) with l:=λy h=>by rw[<-Hz h] }
 | Call f es Eo p=>exact { zaA (.Call f es Eo p) with c:=λy h=>⟨p,by rw[<-Hz h]⟩ }
 | Attribute o x p=>exact { zaA (.Attribute o x p) with a:=λy h=>by rw[<-Hz h] }
 | Slice lo hi st p=>exact { zaA (.Slice lo hi st p) with z:=λy h=>⟨p,by rw[<-Hz h]⟩ }
 | Constant c k p=>exact { zaA (.Constant c k p) with k:=λy h=>⟨k,p,by rw[zm8 h]⟩ }
 | _=>exact zaA _
theorem zbJ(h:B6 o=ag)(name:b7)(env:fB)(w:lu aD):iH o name env w=w:=
 (Bool.or_eq_true_iff.mp h).elim (λh=>(Bool.or_eq_true_iff.mp h).elim (λh=>zQ (Option.isSome_iff_exists.mp h) λx h=>zQ ((qh o).n x h) λp e=>by rw[e];rfl)
  λh=>zQ (Option.isSome_iff_exists.mp h) λx h=>by rw[(qh o).a x h];rfl) λh=>(Bool.or_eq_true_iff.mp h).elim (λh=>zQ (Option.isSome_iff_exists.mp h) λx h=>zQ ((qh o).s x h) λp e=>by rw[e];rfl)
  λh=>za (ziC h) λq h h'=>zQ ((qh o).c q h) λp e=>zQ (Option.isSome_iff_exists.mp h') λx h'=>by rw[e,(qh q.1).a x h'];rfl
theorem jF(h:kM e=ae x):∃p,e = .Name x p:=(qh e).n x h
theorem ku{K:fE}{names:List (b7×bC)}{x:b7}{v:aD}(h:uM K names x v=ag):jQ names x=ag/\xy K x v:=by
 obtain⟨h,h4⟩:=zG h;obtain⟨h,h3⟩:=zG h;obtain⟨h1,h2⟩:=zG h;refine⟨h1,zcZ h2,beq_iff_eq.mp h3,λe=>?_⟩;rw[e] at h4;exact absurd h4 (by decide)
def Bi(X:Cx)(env:fB)(nm:List (b7×Nat))(e:Expr)(m:AE):Prop:=zi X env nm e m/\qR X env nm e m
def ue(X:Cx)(env:fB)(nm:List (b7×Nat))(go:Go):Prop:=∀e,Bi X env nm e (go e)
variable{nm:List (b7×Nat)}{go:Go}
theorem noE:zi X env nm e A.no:=λ_ _ _ _ _ _ _ _ _ _ q=>q.elim
theorem noB:qR X env nm e A.no:=λ_ _ _ _ _ _ _ _ _ _ q=>q.elim
theorem noI:xB X env nm t e A.noI:=λ_ _ _ _ _ _ _ _ _ _ _ _ q=>q.elim
theorem kP(he:∀DR,isTrue e env DR=(do let v <-DR;pF e.pos;holding [v] (truthy v)))(h:zi X env nm e m):Bi X env nm e m:=⟨h,zmE h he⟩
theorem zg4(G:Gd X ct.K)(E:EK env ct.names):zi X env ct.nm (.Name x pos) (AB ct x):=by
 unfold AB;cases hv:v7 ct.names x&&!(x==("__debug__" : b7)) with
 | true=>exact js noE λi hi=>zmV E.eo hi (E.var (zG hv).1) (zmr (zG hv).2)
 | false=>
  refine zW noE λh1=>js noE λi h2=>?_;obtain⟨t,e⟩:=zop h2;exact λd A l U s Q Z L a F q=>qH G.ok E.eo a (E.glob h1).1 (E.glob h1).2 (rO G.inn G.ok.g e) (zb0 a (.int _ _) q)
theorem zfU:zi X env nm (.Constant c k pos) (BD c):=by
 cases c with
 | int i=>exact zmR
 | str s=>exact js noE λn hn=>zm4 (jA hn).1 (jA hn).2
 | none=>exact zjZ
 | bool b=>exact zjT
 | _=>exact noE
theorem zf2(H:ue X env nm go)(es):sS X env nm es (es.map go):=by
 induction es with
 | nil=>exact .nil
 | cons e r ih=>exact .cons (H e).1 (H e).2 ih
theorem zdz(H:ue X env nm go)(h:es.all jo=ag):sL X env nm es (es.map go):=by
 induction es with
 | nil=>exact .nil
 | cons e r ih=>exact .cons (zG h).1 (H e).1 (ih (zG h).2)
theorem zpd(H:ue X env nm go):∀{ops:List mZ} {es:List Expr},Ba ops es=ag->sR X env nm ops es (AD go ops es):=by
 intro ops
 induction ops with
 | nil=>intro es h;exact nob h
 | cons o ops ih=>
  intro es h;cases es with
  | nil=>exact nob h
  | cons e es=>
   cases ops with
   | nil=>
    obtain⟨h1,h2⟩:=zG h;have:=qW h1;subst this;exact .one (H e).1 (zmr h2)
   | cons o2 ops=>
    have:=ih h;cases es with
    | nil=>exact nob h
    | cons e2 es=>exact .cons (H e).1 this
theorem zkU(H:ue X env nm go)(e):yR X env nm e (e.map go):=by
 cases e with
 | none=>trivial
 | some e=>exact(H e).1
theorem ziJ(H:ue X env nm go)(hx:zi X env nm a x):zi X env nm (.Subscript a i pos) (AR go r x i):=by
 unfold AR;cases hz:(ev i).z with
 | some q=>
  refine zQ ((qh i).z q hz) λp e=>?_;rw[e];obtain⟨lo,hi,st⟩:=q;cases st with
  | none=>exact zij hx (zkU H lo) (zkU H hi)
  | some _=>exact noE
 | none=>exact zW noE λh=>zmQ hx (H i).1 h
theorem zvp(H:ue X env nm go):∀{ks:List (Option Expr)} {vs:List Expr},yJ ks vs=ag->sY X env nm ks vs (B0 go ks vs):=by
 intro ks
 induction ks with
 | nil=>intro vs h;have:=qW h;subst this;exact .nil
 | cons k ks ih=>
  intro vs h;cases vs with
  | nil=>exact nob h
  | cons v vs=>
   obtain⟨h1,h2⟩:=zG h;cases k with
   | none=>exact nob h1
   | some k=>exact .cons (H k).1 (H v).1 (ih h2)
theorem zg2(XO:X.Ok)(H:ue X env nm go):zi X env nm (.Dict ks vs pos) (AW go r ks vs):=by
 unfold AW;cases hc:(match ks with|[]=>r|_::_=>ks.all yE)&&ly ks.length 15&&yJ ks vs with
 | true=>exact zmO XO (zvp H (zG hc).2) (ba (zG (zG hc).1).2)
 | false=>
  cases ks with
  | nil=>exact zW noE λh=>by have:=qW h;subst this;exact zmM XO
  | cons k ks=>cases vs with
   | nil=>exact noE
   | cons v vs=>
    refine zW noE λh=>js noE λk' hk=>?_;have e1:=qW (zG h).1;have e2:=qW (zG h).2;subst e1 e2 hk;exact zmN XO (H k').1 (H v).1
theorem zpT(h:yL ok nm e=ae i):∃x p,e = .Name x p/\ok x=ag/\nm.lookup x=ae i:=by
 obtain⟨x,h1,h2⟩:=j6 h;obtain⟨p,rfl⟩:=jF h1;obtain⟨h3,h4⟩:=zbP h2;exact⟨x,p,rfl,h3,h4⟩
theorem zdW(EO:sF env)(hB:∀b,B b->FB env b)(GH:∀x,ok x=ag->xn B env x)(h:yw ok nm e=ae t):wj B X env nm e t:=by
 have other:(yL ok nm e).map uF.one=ae t->wj B X env nm e t:=λh=>by
  obtain⟨i,h1,rfl⟩:=zmi h;obtain⟨x,p,rfl,h2,h3⟩:=zpT h1;exact zeW EO h3 (GH _ h2)
 unfold yw at h;cases ht:(ev e).t with
 | none=>rw[ht] at h;exact other h
 | some es=>
  rw[ht] at h;refine z0 ((qh e).t es ht) λk p e1=>?_;subst e1;obtain⟨is,h1,rfl⟩:=zmi h;refine zid EO hB ?_;clear h other ht
  induction es generalizing is with
  | nil=>cases h1;exact .nil
  | cons e r ih=>
   obtain⟨i,h2,h3⟩:=j6 h1;obtain⟨is',h4,rfl⟩:=zmi h3;obtain⟨x,p,rfl,h5,h6⟩:=zpT h2;exact .cons h6 (GH _ h5) (ih _ h4)
theorem zbn(h:xU e=ae p):∃fp pos,e = .Call (.Name p.1 fp) p.2.1 p.2.2 pos:=by
 exact za (j6 h) λq h1 h=>za (zmi h) λx h2 h3=>zQ ((qh e).c q h1) λpos e1=>zQ (jF h2) λnp e2=>⟨np,pos,by rw[e1,e2,<-h3]⟩
theorem zln(h:B3 e=ae a):∃fp pos,e = .Call (.Name "enumerate" fp) [a] [] pos:=by
 refine za (j6 h) λp h1 h2=>z0 (zbn h1) λnp pos e1=>?_;obtain⟨x,es,Eo⟩:=p;cases es with
 | nil=>exact nos h2
 | cons b r=>
  exact jC (zbP h2) λh3 h4=>jC (zG h3) λh3 h5=>jC (zG h3) λh3 h6=>⟨np,pos,by rw[e1,qW h3,qW h6,Hz h4,H7 h5]⟩
theorem zc7(G:Gd X ct.K)(E:EK env ct.names)(H:ue X env ct.nm go):xB X env ct.nm target iter (yI go ct target iter):=by
 unfold yI;cases hc:B3 iter with
 | none=>exact zgG (H iter).1
 | some e=>
  refine z0 (zln hc) λfp pos e1=>?_;subst e1;refine zW noI λh=>?_;obtain⟨h,h5⟩:=zG h;obtain⟨h1,h4⟩:=zG h;obtain⟨b1,b2⟩:=ku h1;obtain⟨ts,h6⟩:=Option.isSome_iff_exists.mp h5;refine z0 ((qh target).t ts h6) λk p e2=>?_;rw[e2];exact zic G.ok E.eo (E.glob b1).1 (G.none b2) (G.some b2) h4 (H e).1
theorem ziG(H:ue X env nm go)(h:BN ifs=ag):yp X env nm ifs (BB go ifs):=by
 cases ifs with
 | nil=>trivial
 | cons e r=>cases r with|nil=>exact(H e).2|cons e2 r=>exact nob h
def vz(K:fE)(ex:List (aH×List aH)):Prop:=∀p∈ex,uC K p.1 p.2
def Bp(X:Cx)(go:CT->Go)(K:fE)(ex:List (aH×List aH)):Prop:=∀ct env,ct.K=K->ct.ex=ex->EK env ct.names->ue X env ct.nm (go ct)
theorem zc6{go:CT->Go}(G:Gd X ct.K)(E:EK env ct.names)(H:Bp X go ct.K ct.ex){S:AE->Prop}(hz:S A.no)
  (h:∀target iter ifs k t c e mi,gens=[⟨target,iter,ifs,0⟩]->tU X env ct.nm (jR ct.nm) elt target iter ifs scope (ct.inn scope.names).nm k t c e mi->S (A.lc r mi t k c e)):S (Av go ct r elt gens scope):=by
 cases gens with
 | nil=>exact hz
 | cons g gs=>
  refine zW hz λh1=>js hz λt i2=>?_;obtain⟨N4,h2⟩:=zG h1;obtain⟨h3,hifs⟩:=zG h2;obtain⟨h4,Eu⟩:=zG h3;obtain⟨h5,hk⟩:=zG h4;obtain⟨ha,hcb⟩:=zG h5;clear h1 h2 h3 h4 h5;have N4:=qW N4;subst N4;obtain⟨tg,it,ifs,asy⟩:=g;have Ij:asy=0:=H7 ha;subst Ij;have HA:scope.kind = .function:=H7 hk;have E':=λC=>E.comp hcb HA C;have H':=λC=>H (ct.inn scope.names) _ rfl rfl (E' C);refine h tg it ifs _ t _ _ _ rfl ⟨Eu,by rw[E.nm];exact zcN hcb,HA,zc7 G E (H ct env rfl rfl E),λC=>?_,λC=>ziG (H' C) hifs,λC=>(H' C _).1⟩;exact zdW (E' C).eo (λb hb=>.inl hb) (λx hx=>Or.inl ⟨(E' C).loc hx,λb hb=>hb⟩) i2
theorem zbT{V β:Type}[BEq V][LawfulBEq V]{l:List (V×β)}{a:V}{b:β}(h:l.lookup a=ae b):(a,b)∈l:=by
 induction l with
 | nil=>exact nos h
 | cons p r ih=>
  rw[bF] at h;split at h
  .rename_i e;obtain rfl:=Hz h;rw[H7 e];exact aj
  .exact al _ (ih h)
theorem zlJ(HX:vz ct.K ct.ex)(h:(Ak ct v).lookup c=ae b):kitOne ct.K (.ref c) v=ae b/\∃tl,uC ct.K c tl:=by
 have h:=zbT h;unfold Ak at h;refine za (List.mem_filterMap.mp h) λp hp h1=>za (zmi h1) λb' h2 h3=>?_;cases h3;exact⟨h2,p.2,HX p hp⟩
theorem ziH(G:Gd X ct.K)(HX:vz ct.K ct.ex)(E:EK env ct.names)(H:ue X env ct.nm go){es:List Expr}{gp pos:pJ}:zi X env ct.nm (.Call (.Name "isinstance" gp) es [] pos) (C2 go ct es):=by
 cases es with
 | nil=>exact noE
 | cons e es=>cases es with
  | nil=>exact noE
  | cons c es=>
   refine zW noE λh=>js noE λT hT=>?_;obtain⟨h2,he⟩:=zG h;obtain⟨h1,hs⟩:=zG h2;clear h h2;have he:=qW he;subst he;obtain⟨tp,rfl⟩:=jF hT;obtain⟨b1,b2⟩:=ku h1;cases hp:yl.lookup T with
   | some t=>
    refine zW noE λh5=>?_;obtain⟨c1,c2⟩:=ku h5;exact zmS G.ok E.eo (E.glob b1).1 (G.none b2) (G.some b2) (E.glob c1).1 (E.glob c1).2 (G.none c2) (G.some c2) hs (H e).1
   | none=>
    refine js noE λv h3=>zmT G.ok G.inn E.eo (E.glob b1).1 (G.none b2) (G.some b2) (λA s U Q E' a q=>?_) (λc b hc=>zlJ HX hc) hs (H e).1;obtain⟨g1,h5⟩:=zbP h3;cases hC:vy (rC ct.K Hn T) with
    | some C=>
     rw[hC] at h5;cases h5;exact qH G.ok E.eo a (E.glob g1).1 (E.glob g1).2 (rO G.inn G.ok.g (kQ hC)) q
    | none=>
     rw[hC] at h5;obtain⟨h6,h7⟩:=zbP h5;cases h7;obtain⟨c1,c2⟩:=ku h6;exact jd G.ok E.eo a (E.glob c1).1 (E.glob c1).2 (G.none c2) (G.some c2) q
def uV.Ok(X:Cx)(p:uV):Prop:=jc X p.val p.prim/\((∃id,p.val = .builtin id)\/∃T,p.val = .type T)
theorem zpk(h:p∈uG):p.Ok X:=(List.forall_mem_cons.mpr ⟨⟨zmU,.inl ⟨_,rfl⟩⟩,List.forall_mem_cons.mpr ⟨⟨zii,.inr ⟨_,rfl⟩⟩,List.forall_mem_cons.mpr ⟨⟨zeY,.inr ⟨_,rfl⟩⟩,List.forall_mem_cons.mpr ⟨⟨zik,.inr ⟨_,rfl⟩⟩,List.forall_mem_cons.mpr ⟨⟨zmX,.inl ⟨_,rfl⟩⟩,List.forall_mem_cons.mpr ⟨⟨zmY,.inl ⟨_,rfl⟩⟩,List.forall_mem_cons.mpr ⟨⟨zm5,.inl ⟨_,rfl⟩⟩,List.forall_mem_cons.mpr ⟨⟨zgK,.inl ⟨_,rfl⟩⟩,List.forall_mem_cons.mpr ⟨⟨zjX,.inr ⟨_,rfl⟩⟩,List.forall_mem_cons.mpr ⟨⟨zmG,.inl ⟨_,rfl⟩⟩,List.forall_mem_cons.mpr ⟨⟨zmH,.inl ⟨_,rfl⟩⟩,λ_ h=>nomatch h⟩⟩⟩⟩⟩⟩⟩⟩⟩⟩⟩:∀p∈uG,p.Ok X) p h
def vg.Ok(X:Cx)(p:vg):Prop:=Slot "list" p.name p.id/\pZ (.builtin p.id)=b9 (.type "method_descriptor")/\kj X p.id p.meth
theorem zo2(h:p∈uA):p.Ok X:=(List.forall_mem_cons.mpr ⟨⟨iI,PySem.F.type_list_append,zgH⟩,List.forall_mem_cons.mpr ⟨⟨gc,PySem.F.type_list_pop,zm2⟩,List.forall_mem_cons.mpr ⟨⟨l9,PySem.F.type_list_clear,zie⟩,List.forall_mem_cons.mpr ⟨⟨iL,PySem.F.type_list_remove,zgJ⟩,λ_ h=>nomatch h⟩⟩⟩⟩:∀p∈uA,p.Ok X) p h
theorem zn1{K:fE}{f:aH}(h:(vR K f).isSome=ag):∃fd o,K.lookup f=ae o/\o.data = .func fd:=by
 obtain⟨fd,EM⟩:=Option.isSome_iff_exists.mp h;obtain⟨o,ho,hd⟩:=zkC EM;exact⟨fd,o,ho,hd⟩
theorem zcy{V:Type}{l:List V}{a:V}(h:xv l=ae a):l=[a]:=by
 cases l with
 | nil=>exact nos h
 | cons b r=>rw[qW (zbP h).1,Hz (zbP h).2]
theorem zrL{V:Type}{l:List V}{p:V×V}(h:Bq l=ae p):l=[p.1,p.2]:=by
 cases l with
 | nil=>exact nos h
 | cons a r=>cases r with|nil=>exact nos h|cons b r=>rw[qW (zbP h).1,<-Hz (zbP h).2]
theorem zpX(h:B2 g o i es=ae e):g=o/\jo e=ag/\∃np pos,es=[.Call (.Name i np) [e] [] pos]:=by
 refine za (j6 h) λa h1 h2=>za (j6 h2) λp h3 h4=>za (j6 h4) λb h5 h6=>?_;obtain⟨k,k4⟩:=zbP h6;obtain⟨k,k3⟩:=zG k;obtain⟨k,k2⟩:=zG k;obtain⟨k0,k1⟩:=zG k;obtain rfl:=Hz k4;refine z0 (zbn h3) λnp pos e1=>⟨H7 k0,k3,np,pos,?_⟩
 rw[zcy h1,e1,zcy h5,qW k2,H7 k1]
theorem zqh(h:Bj elt g=ae n):∃wp kp k1 p1 p2 p3 p4 p5 p6 p7,g.target = .Name n.1 wp/\g.iter = .Name n.2 kp/\elt = .Tuple [.Name n.1 p1,.Call (.Name "list" p2) [.Subscript (.Name n.2 p3) (.Name n.1 p4) p5] [] p6] k1 p7:=by
 refine za (j6 h) λw h1 h=>za (j6 h) λk h2 h=>za (j6 h) λes h3 h=>za (j6 h) λab h4 h=>za (j6 h) λp h5 h=>za (j6 h) λc h6 h=>za (j6 h) λq h7 h=>?_;obtain⟨k,k0⟩:=zbP h;obtain⟨k,k5⟩:=zG k;obtain⟨k,k4⟩:=zG k;obtain⟨k,k3⟩:=zG k;obtain⟨k1,k2⟩:=zG k;obtain rfl:=Hz k0;refine zQ (jF h1) λwp e1=>zQ (jF h2) λkp e2=>z0 ((qh elt).t _ h3) λtk tp e3=>z0 (zbn h5) λlp cp e5=>zQ ((qh c).s _ h7) λsp e7=>zQ (jF (H7 k1)) λp1 e8=>zQ (jF (H7 k2)) λp3 e9=>zQ (jF (H7 k3)) λp4 ML=>⟨wp,kp,tk,p1,lp,p3,p4,sp,cp,tp,e1,e2,by rw[e3,zrL h4,e5,zcy h6,e7,qW k5,H7 k4,e8,e9,ML]⟩
theorem zg1(G:Gd X ct.K)(E:EK env ct.names){es:List Expr}{gp pos:pJ}:zi X env ct.nm (.Call (.Name "dict" gp) es [] pos) (BF ct es):=by
 refine js noE λq h1=>js noE λg h2=>js noE λn h3=>js noE λi h4=>js noE λj h5=>zW noE λh=>za (j6 h1) λe0 h1 E2=>?_;have e1:=(qh e0).l q E2;obtain⟨tg,it,ifs,asy⟩:=g;obtain⟨wp,kp,k1,p1,p2,p3,p4,p5,p6,p7,e2,e3,e4⟩:=zqh h3;have e2:tg=_:=e2;have e3:it=_:=e3;obtain⟨h,a12⟩:=zG h;obtain⟨h,a11⟩:=zG h;obtain⟨h,a10⟩:=zG h;obtain⟨h,a9⟩:=zG h;obtain⟨h,a8⟩:=zG h;obtain⟨h,a7⟩:=zG h;obtain⟨h,a6⟩:=zG h;obtain⟨h,a5⟩:=zG h;obtain⟨h,a4⟩:=zG h;obtain⟨h,a3⟩:=zG h;obtain⟨h,a2⟩:=zG h;obtain⟨h,a1⟩:=zG h;obtain⟨h,_⟩:=zG h;obtain⟨h,_⟩:=zG h;obtain⟨h,hk⟩:=zG h;obtain⟨ha,hcb⟩:=zG h;have Ij:asy=0:=H7 ha;have Ra:ifs=[]:=qW a1;have HA:q.2.2.1.kind = .function:=H7 hk;obtain⟨b1,b2⟩:=ku a2;obtain⟨c1,c2⟩:=ku a3;have E':=λC=>E.comp hcb HA C;rw[zcy h1,e1,zcy h2,e4,e2,e3,Ra,Ij];refine zeZ G.ok E.eo (E.glob b1).1 (E.glob b1).2 (G.none b2) (G.some b2) (.inr ⟨_,rfl⟩) (zif G.ok) (.cons rfl ?_ .nil);exact zmL G.ok E.eo (by rw[E.nm];exact zcN hcb) HA h5 (E.var a4) (zmr a5) E' h4 (H7 a7) a8 (H7 a9) (zmr a6) c1 (G.none c2) (G.some c2) (ba a10) (ba a11) (ba a12)
theorem zfT(G:Gd X ct.K)(HX:vz ct.K ct.ex)(E:EK env ct.names)(H:ue X env ct.nm go):zi X env ct.nm (.Call (.Name g gp) es [] pos) (B7 X go ct g es pos):=by
 unfold B7;cases hi:(g==("isinstance" : b7)) with
 | true=>
  have:=H7 hi;subst this;exact ziH G HX E H
 | false=>
  cases h2:B2 g "len" "set" es with
  | some e=>
   obtain⟨rfl,hs,np,pos2,rfl⟩:=zpX h2;refine zW noE λh1=>?_;obtain⟨b1,b2⟩:=ku (zG h1).1;obtain⟨c1,c2⟩:=ku (zG h1).2;exact zgI G.ok E.eo (E.glob b1).1 (G.none b2) (G.some b2) (E.glob c1).1 (G.none c2) (G.some c2) (.cons hs (H e).1 .nil)
  | none=>
  cases hdc:(g==("dict" : b7)) with
  | true=>
   have:=H7 hdc;subst this;exact zg1 G E
  | false=>
  refine zW noE λhs=>?_;have hm:=zdz H hs;cases hp:uG.find? (λp=>p.name==g) with
  | some p=>
   refine zW noE λh1=>?_;obtain⟨b1,b2⟩:=ku h1;obtain⟨o1,o2⟩:=zpk (X:=X) (iv hp);exact zeZ G.ok E.eo (E.glob b1).1 (E.glob b1).2 (G.none b2) (G.some b2) o2 o1 hm
  | none=>
   refine zW noE λh1=>js noE λf h3=>?_;have hg:=kQ h3;cases hf:(vR ct.K f).isSome with
   | true=>
    obtain⟨fd,o,ho,hd⟩:=zn1 hf;exact zjU G.ok E.eo (E.glob h1).1 (E.glob h1).2 (rO G.inn G.ok.g hg) (G.inn _ _ ho) hd hm
   | false=>exact zW noE λk1=>js noE λfI k4=>zW noE λk6=>zvM G E hg h1 (zG k1).1 (zG k1).2 (kQ k4) (H7 k6) hm
theorem zfV(G:Gd X ct.K)(E:EK env ct.names)(H:ue X env ct.nm go){g:b7}{es:List Expr}{kw:nY}{gp pos:pJ}:zi X env ct.nm (.Call (.Name g gp) es [kw] pos) (Bu X go ct g es kw pos):=by
 cases es with
 | nil=>exact noE
 | cons e es=>
  obtain⟨ka,kv,kp⟩:=kw;refine zW noE λh1=>js noE λk hk=>?_;obtain⟨h1,he⟩:=zG h1;obtain⟨h1,hs⟩:=zG h1;obtain⟨h1,hb⟩:=zG h1;obtain⟨h1,CO⟩:=zG h1;have:=H7 h1;subst this;have:ka=ae "key":=H7 CO;subst this;have:=qW he;subst this;obtain⟨lp,Jo⟩:=jF hk;have Jo:kv = .Name k lp:=Jo;subst Jo;obtain⟨b1,b2⟩:=ku hb;cases hl:(k==("len" : b7)) with
  | true=>
   have:=H7 hl;subst this;refine zW noE λh6=>?_;obtain⟨c1,c2⟩:=ku h6;exact znd G E b2 c2 b1 c1 hs (H e).1
  | false=>
   refine zW noE λh6=>js noE λf h8=>zW noE λhf=>?_;obtain⟨fd,o,ho,hd⟩:=zn1 hf;exact zrP G E b2 b1 (kQ h8) ho hd h6 hs (H e).1
theorem zg3(G:Gd X ct.K)(E:EK env ct.names)(H:ue X env ct.nm go):zi X env ct.nm (.Call (.Attribute o name Dz) es [] pos) (Ch X go ct o name Dz es pos):=by
 refine zW noE λh1=>?_;obtain⟨h1,hs⟩:=zG h1;obtain⟨h1,hn⟩:=zG h1;obtain⟨h1,hl⟩:=zG h1;have hm:=zdz H hs;cases hp:uA.find? (λm=>m.name==name) with
 | some p=>
  obtain⟨o1,o2,o3⟩:=zo2 (X:=X) (iv hp);have Nx:=lY hp;have Nx:p.name=name:=H7 Nx;subst Nx;exact zjY o1 o2 o3 (λe=>zbJ h1 _ _ _) hl hn (H o).1 hm
 | none=>
  refine zW noE λh7=>js noE λf h9=>zW noE λhf=>?_;obtain⟨fd,ob,ho,hd⟩:=zn1 (zG hf).2;exact zrN G h7 (kQ h9) (zG hf).1 ho hd (λe=>zbJ h1 _ _ _) hl hn (H o).1 hm
theorem zgZ(G:Gd X ct.K)(H:ue X env ct.nm go):zi X env ct.nm (.Attribute o name pos) (Cg go ct o name):=by
 refine zW noE λh1=>js noE λn h6=>?_;obtain⟨h1,h3⟩:=zG h1;obtain⟨h1,h4⟩:=zG h1;obtain⟨h1,h5⟩:=zG h1;exact ztY G (jA h6).1 (jA h6).2 h5 h4 (zcZ h3) (λe=>zbJ h1 _ _ _) (H o).1
theorem zg0(G:Gd X ct.K)(HX:vz ct.K ct.ex)(E:EK env ct.names)(H:ue X env ct.nm go):zi X env ct.nm (.Call f es Eo pos) (AP X go ct f es Eo pos):=by
 unfold AP;cases hn:(ev f).n with
 | some g=>
  refine zQ ((qh f).n g hn) λgp e=>?_;rw[e];cases Eo with
  | nil=>exact zfT G HX E H
  | cons kw r=>exact zW noE λh=>by have:=qW h;subst this;exact zfV G E H
 | none=>exact js noE λq hq=>zW noE λh=>by have:=qW h;subst this;rw[(qh f).a q hq];exact zg3 G E H
theorem zdV{K:fE}{ex:List (aH×List aH)}(G:Gd X K)(HX:vz K ex)(n):Bp X (cE X n) K ex:=by
 induction n with
 | zero=>intro ct env hK IB E e;exact⟨noE,noB⟩
 | succ n ih=>
  intro ct env hK IB E e;subst hK IB;have H:=ih ct env rfl rfl E;cases e with
  | Name x p=>exact kP (λ_=>rfl) (zg4 G E)
  | Constant c k p=>exact kP (λ_=>rfl) zfU
  | BinOp a o b p=>exact kP (λ_=>rfl) (zmJ (H a).1 (H b).1)
  | UnaryOp o a p=>cases o with|USub=>exact kP (λ_=>rfl) (zmZ (H a).1)|Not=>exact⟨zm1 (H a).1,zjS (H a).2⟩|_=>exact⟨noE,noB⟩
  | BoolOp o es p=>cases o with|And=>exact⟨zmI (zf2 H es),zjQ (zf2 H es)⟩|Or=>exact⟨zpK (zf2 H es),zmF (zf2 H es)⟩
  | Compare a ops es p=>exact⟨zW noE λh=>zmK (H a).1 (zpd H h),zW noB λh=>zjR (H a).1 (zpd H h)⟩
  | Tuple es k p=>exact kP (λ_=>rfl) (zW noE λh=>zm7 (zdz H h))
  | List es p=>exact kP (λ_=>rfl) (zW noE λh=>zmW (zdz H h))
  | Subscript a i p=>exact kP (λ_=>rfl) (ziJ H (H a).1)
  | ListComp elt gens scope p=>exact kP (λ_=>rfl) (zc6 G E ih noE λtarget iter ifs k t c e mi hg S=>by subst hg;exact zeX E.eo rfl S)
  | Attribute o name p=>exact kP (λ_=>rfl) (zgZ G H)
  | Dict ks vs p=>exact kP (λ_=>rfl) (zg2 G.ok H)
  | Call f es Eo p=>exact kP (λ_=>rfl) (zg0 G HX E H)
  | _=>exact⟨noE,noB⟩
theorem noS:jz X env nm s A.wH:=zig
theorem ziI{K:fE}(G:Gd X K)(hK:ct.K=K)(HX:vz K ct.ex)(E:EK env ct.names){n:Nat}{t v:Expr}{pos:pJ}:jz X env ct.nm (.Assign [t] v pos) (Be X n ct t v):=by
 subst hK;have H:=zdV G HX n ct env rfl rfl E;unfold Be;cases hn:(ev t).n with
 | some x=>
  refine zQ ((qh t).n x hn) λp e=>?_;rw[e];refine zW noS λh1=>js noS λi h3=>?_;cases hl:(ev v).l with
  | some q=>
   have e1:=(qh v).l q hl;rw[e1];exact zc6 (S:=λm=>jz X env ct.nm (.Assign [.Name x p] (.ListComp q.1 q.2.1 q.2.2.1 q.2.2.2) pos) (A.set i m)) G E (zdV G HX n) (λ_ _ _ _ _ _ _ _ _ _ q=>q.elim) λtarget iter ifs k t c e mi hg S=>by rw[hg];exact zfc E.eo rfl S h3 (E.var h1)
  | none=>exact zW noS λh5=>zfH E.eo (H v).1 h3 (E.var h1) (zdr h5 _ _ _)
 | none=>
  cases ha:(ev t).a with
  | some q=>
   rw[(qh t).a q ha];refine zW noS λh1=>js noS λk h6=>?_;obtain⟨h1,h3⟩:=zG h1;obtain⟨h1,h4⟩:=zG h1;obtain⟨h1,h5⟩:=zG h1;exact zrO G (jA h6).1 (jA h6).2 (H7 h1) h5 (zcZ h4) h3 (zj3 _ _ _ _ _ _) (H v).1 (H q.1).1
  | none=>exact js noS λq hq=>zQ ((qh t).s q hq) λp e=>by rw[e];exact zjW (H v).1 (H q.1).1 (H q.2).1 (zna _ _ _ _ _ _)
theorem zsz(H:∀s,jz X env nm s (f s))(ss):j9 X env nm ss (vX f ss):=by
 induction ss with
 | nil=>exact zm0
 | cons s r ih=>exact zjV (H s) ih
theorem zrB(h:yE (ae a)=ag):∃t k p,a = .Constant (.str t) k p:=zQ (Option.isSome_iff_exists.mp h) λt h=>⟨t,(qh a).k t h⟩
theorem zjF(h:Bk e=ae x):∃np t k cp cpos,e = .Call (.Name x np) [.Constant (.str t) k cp] [] cpos:=by
 refine za (j6 h) λp h1 h2=>z0 (zbn h1) λnp pos e1=>?_;obtain⟨y,es,Eo⟩:=p;cases es with
 | nil=>exact nos h2
 | cons a r=>
  exact jC (zbP h2) λh3 h4=>jC (zG h3) λh3 h5=>jC (zG h3) λh3 h6=>kB (zrB h3) λt k cp e2=>⟨np,t,k,cp,pos,by rw[e1,e2,qW h6,qW h5,Hz h4]⟩
theorem zjG(h:BK e c=ae x):∃np t k cp cpos,e=ae (.Call (.Name x np) [.Constant (.str t) k cp] [] cpos)/\c=af:=by
 cases c with
 | none=>
  exact za (j6 h) λe' h1 h2=>zd7 (zjF h2) λnp t k cp cpos h3=>⟨np,t,k,cp,cpos,h1.trans (congrArg ae h3),rfl⟩
 | some _=>exact nos h
theorem zlG(h:Ck hs=ae q):∃tp pos,hs=[.ExceptHandler (ae (.Name q.1 tp)) q.2.1 (q.2.2.1::q.2.2.2) pos]:=by
 cases hs with
 | nil=>exact nos h
 | cons x r=>
  obtain⟨t,name,body,pos⟩:=x;refine jC (zbP h) λh1 h2=>za (j6 h2) λt' e1 h3=>za (j6 h3) λT h4 h5=>?_;cases body with
  | nil=>exact nos h5
  | cons b0 bs=>
   have e0:=Hz h5;exact zQ (jF h4) λtp e2=>⟨tp,pos,by rw[<-e0,e1,e2,qW h1]⟩
theorem znK{K:fE}{ex:List (aH×List aH)}(G:Gd X K)(HX:vz K ex)(n):∀ct env,ct.K=K->ct.ex=ex->EK env ct.names->X.top=ae env->∀s,jz X env ct.nm s (cS X n ct s):=by
 induction n with
 | zero=>intro ct env hK IB E ht s;exact noS
 | succ n ih=>
  intro ct env hK IB E ht s;have HS:=zsz (ih ct env hK IB E ht);have H:=zdV G HX n ct env hK IB E;subst hK IB;cases s with
  | Return v p=>cases v with|none=>exact zj0|some e=>exact zm3 (H e).1
  | Assign ts v p=>cases ts with|nil=>exact noS|cons t r=>exact zW noS λh=>by have:=qW h;subst this;exact ziI G rfl HX E
  | Expr e p=>exact zW noS λh=>zpI E.eo (H e).1 (zdr h _ _ _)
  | If t a b p=>exact zpJ (H t).2 (HS a) (HS b)
  | While t a b p=>exact zW noS λh=>by have:=qW h;subst this;exact zil (H t).2 (HS a)
  | For tg it a b p=>
   refine zW noS λh=>js noS λt ht=>?_;have:=qW (zG h).1;subst this;exact zmP (zG h).2 (zc7 G E H) (zdW E.eo (λb hb=>hb) (λy hy=>E.stoF hy) ht) (HS a)
  | Raise e c p=>
   refine js noS λx h=>?_;obtain⟨np,t,k,cp,cpos,rfl,rfl⟩:=zjG h;refine zW noS λh1=>js noS λC h3=>zW noS λh5=>?_;obtain⟨tl,h7⟩:=Option.isSome_iff_exists.mp h5;exact zih G.ok E.eo (E.glob h1).1 (E.glob h1).2 (rO G.inn G.ok.g (kQ h3)) (zdB G.inn (HX _ (zbT h7)).b)
  | Try body hs DD fin p=>
   refine js noS λq Pe=>?_;obtain⟨T,name,b0,bs⟩:=q;refine z0 (zlG Pe) λtp EH Qk=>?_;subst Qk
   .clear Pe;refine zW noS λh=>?_;have e1:=qW (zG h).1;have e2:=qW (zG h).2;subst e1 e2;refine zW noS λg1=>js noS λC' h9=>zW noS λRZ=>js noS λi Jx=>?_;obtain⟨MF,h14⟩:=Option.isSome_iff_exists.mp RZ;refine zm6 G.ok E.eo ht (E.glob g1).1 (E.glob g1).2 (rO G.inn G.ok.g (kQ h9)) (zdB G.inn (HX _ (zbT h14)).b) (λc hc=>?_) ?_ (HS body) (HS (b0::bs))
    .obtain⟨q,hq,rfl⟩:=List.mem_map.mp hc;obtain⟨q1,q2⟩:=List.mem_filter.mp hq;exact⟨q.2,zdB G.inn (HX _ q1).b,q2⟩
    .cases name with
     | none=>cases Jx;trivial
     | some nn=>
      obtain⟨k1,k2⟩:=zbP Jx;obtain⟨j,k3,rfl⟩:=zmi k2;exact⟨k3,E.loc k1⟩
  | _=>exact noS
theorem za0{o:Option gD}(h:∀a0,o.map (λfd=>dX fd ⟨[a0],[]⟩)=ae (b9 [(p,a0)]))(vs:List aD)(hl:vs.length=[p].length):o.map (λfd=>dX fd ⟨vs,[]⟩)=ae (b9 ([p].zip vs)):=by
 refine z9 (zbQ hl) λa0 v0 IH h0=>?_;subst IH;have e:=List.length_eq_zero_iff.mp h0;subst e;exact h a0
theorem j4{o:Option gD}(h:∀a0 a1,o.map (λfd=>dX fd ⟨[a0,a1],[]⟩)=ae (b9 [(p,a0),(q,a1)]))(vs:List aD)(hl:vs.length=[p,q].length):o.map (λfd=>dX fd ⟨vs,[]⟩)=ae (b9 ([p,q].zip vs)):=by
 refine z9 (zbQ hl) λa0 v0 IN h0=>?_;subst IN;refine z9 (zbQ h0) λa1 v1 I5 h1=>?_;subst I5;have e:=List.length_eq_zero_iff.mp h1;subst e;exact h a0 a1
theorem zbK{o:Option gD}(h:∀a0 a1 a2,o.map (λfd=>dX fd ⟨[a0,a1,a2],[]⟩)=ae (b9 [(p,a0),(q,a1),(r,a2)]))(vs:List aD)(hl:vs.length=[p,q,r].length):o.map (λfd=>dX fd ⟨vs,[]⟩)=ae (b9 ([p,q,r].zip vs)):=by
 refine z9 (zbQ hl) λa0 v0 J0 h0=>?_;subst J0;refine z9 (zbQ h0) λa1 v1 Iu h1=>?_;subst Iu;refine z9 (zbQ h1) λa2 v2 J9 h2=>?_;subst J9;have e:=List.length_eq_zero_iff.mp h2;subst e;exact h a0 a1 a2
theorem zdT{o:Option gD}(h:∀a0 a1 a2 a3,o.map (λfd=>dX fd ⟨[a0,a1,a2,a3],[]⟩)=ae (b9 [(p,a0),(q,a1),(r,a2),(t,a3)]))(vs:List aD)(hl:vs.length=[p,q,r,t].length):o.map (λfd=>dX fd ⟨vs,[]⟩)=ae (b9 ([p,q,r,t].zip vs)):=by
 refine z9 (zbQ hl) λa0 v0 I6 h0=>?_;subst I6;refine z9 (zbQ h0) λa1 v1 IF h1=>?_;subst IF;refine z9 (zbQ h1) λa2 v2 IG h2=>?_;subst IG;refine z9 (zbQ h2) λa3 v3 HW h3=>?_;subst HW;have e:=List.length_eq_zero_iff.mp h3;subst e;exact h a0 a1 a2 a3
theorem zsM{o:Option gD}(h:∀a0 a1 a2 a3 a4,o.map (λfd=>dX fd ⟨[a0,a1,a2,a3,a4],[]⟩)=ae (b9 [(p,a0),(q,a1),(r,a2),(t,a3),(u,a4)]))(vs:List aD)(hl:vs.length=[p,q,r,t,u].length):o.map (λfd=>dX fd ⟨vs,[]⟩)=ae (b9 ([p,q,r,t,u].zip vs)):=by
 refine z9 (zbQ hl) λa0 v0 IQ h0=>?_;subst IQ;refine z9 (zbQ h0) λa1 v1 Il h1=>?_;subst Il;refine z9 (zbQ h1) λa2 v2 Ii h2=>?_;subst Ii;refine z9 (zbQ h2) λa3 v3 HZ h3=>?_;subst HZ;refine z9 (zbQ h3) λa4 v4 HO h4=>?_;subst HO;have e:=List.length_eq_zero_iff.mp h4;subst e;exact h a0 a1 a2 a3 a4
def A.vG(Q:zt):je:=λfl _ U'=>sD Q (BE fl) U'
def A.kEz(Z:XP):uN:=λc _ U'=>Z c U'
theorem zuL{K:fE}{ex:List (aH×List aH)}{C f:aH}{refs:List (Nat×Nat)}(ps)(nm){d:Dp}{m:Cx->AS}{CA:List AV}{Q:zt}{Z:XP}{U:su}(G:Gd X K)(HX:vz K ex)(hc:∀X,cF X K C ex f refs ps nm=ae (m X))
  (EW:∀vs,vs.length=ps.length->(vR K f).map (λfd=>dX fd ⟨vs,[]⟩)=ae (b9 (ps.zip vs)))(hd:d.n<600)(Ct:CA.length=ps.length)
  (h:∀L,m (X.push L) ⟨d.n+1,d.hd⟩ (vO CA (jR nm)) (A.vG Q) (A.kEz Z) U):sy X f d CA Q Z U:=by
 refine za (j6 (hc X)) λfd EM h1=>?_;split at h1
 .rename_i body Jf
  obtain⟨h1,_⟩:=zbP h1;obtain⟨h1,i1⟩:=zG h1;obtain⟨h1,i2⟩:=zG h1;obtain⟨h1,i3⟩:=zG h1;obtain⟨h1,i4⟩:=zG h1;obtain⟨h1,i5⟩:=zG h1;obtain⟨h1,i6⟩:=zG h1;obtain⟨h1,i7⟩:=zG h1;refine za (zkC EM) λo ho Qp=>zlo (m:=λL=>m (X.push L)) G.ok (scope:=fd.scope) ⟨o,fd,G.inn _ _ ho,Qp,rfl,Jf,List.isEmpty_iff.mp h1,H7 i7,H7 i6,codeRec_of G.inn i5,λvs hv=>by have:=EW vs hv;rw[EM] at this;exact Hz this⟩ (zjy i4) (H7 i3) (zmr i2) (zmr i1) (λenv EO es=>?_) hd Ct h;refine za (j6 (hc (X.push env))) λfd' Kk h2=>?_;rw[EM] at Kk;obtain rfl:=Hz Kk;rw[Jf] at h2;obtain⟨_,h2⟩:=zbP h2;rw[<-Hz h2];exact zsz (znK (G.push _) HX 40 ⟨K,C,refs,fd.scope.names,nm,ex⟩ env rfl rfl ⟨EO,by rw[es]⟩ rfl) body
 .exact absurd (d6 h1) (aA _)
end
inductive sN:Nat->AV->Prop
 | none {k:Nat}:sN k .none
 | int {k:Nat} (i:Int):sN k (.int i)
 | str {k n:Nat} (h:n<kW):sN k (.str n)
 | tup {k:Nat} {xs:List AV}:(∀x∈xs,sN k x)->sN (k+1) (.tup xs)
 | lst {k:Nat} {xs:List AV}:(∀x∈xs,sN k x)->sN (k+1) (.lst xs)
section
variable{U:su}
theorem zeL(h:∀x∈xs,∃d,Rd U x d/\d.depth<=k):∃ds,tD U xs ds/\bf ds<=k:=by
 induction xs with
 | nil=>exact⟨[],.nil,aE _⟩
 | cons x xs ih=>
  exact za (h x aj) λd h1 h2=>za (ih λy hy=>h y (al _ hy)) λds h3 h4=>zf (d::ds) (.cons h1 h3) (Nat.max_le.mpr ⟨h2,h4⟩)
theorem sN.rd(h:sN k x):∃d,Rd U x d/\d.depth<=k:=by
 induction h with
 | none=>exact⟨_,.none,aE _⟩
 | int i=>exact⟨_,.int i,aE _⟩
 | str h=>exact⟨_,.str _,aE _⟩
 | tup _ ih=>
  exact za (zeL ih) λds h1 h2=>⟨_,.tup h1,b6 h2⟩
 | lst _ ih=>
  exact za (zeL ih) λds h1 h2=>zf _ (.lst h1) (b6 h2)
theorem zkB(hx:tD U xs ds)(hy:tD U ys es)(h:∀x∈xs,∀y∈ys,∀d e,Rd U x d->Rd U y e->(aU d e=ag↔x=y)):bP ds es=ag↔xs=ys:=by
 induction xs generalizing ys ds es with
 | nil=>
  obtain rfl:=tD.wG hx;cases hy with
  | nil=>simp only[bP]
  | cons _ _=>simp only[bP,aT,false_iff];exact λe=>nomatch e
 | cons x xs ih=>
  refine zm (tD.wF hx) λ_ _ Dk h1 h2=>?_;subst Dk;cases hy with
  | nil=>simp only[bP,aT,false_iff];exact λe=>nomatch e
  | cons h3 h4=>
   simp only[bP,bx,po];exact and_congr (h _ aj _ aj _ _ h1 h3) (ih h2 h4 λa ha b hb=>h a (al _ ha) b (al _ hb))
theorem znv(h:AV.int i = .int j):i=j:=by injection h
theorem zsK(h:AV.str i = .str j):i=j:=by injection h
theorem zsL(h:AV.tup i = .tup j):i=j:=by injection h
theorem zsJ(h:AV.lst i = .lst j):i=j:=by injection h
theorem mis(h:¬P):(ai=ag↔P):=⟨nob,λp=>absurd p h⟩
theorem sN.eqv(h:sN k x):∀{j:Nat} {y:AV},sN j y->∀d e,Rd U x d->Rd U y e->(aU d e=ag↔x=y):=by
 induction h with
 | none=>
  intro j y hy d e hd he;obtain rfl:=Rd.wN hd;cases hy with
  | none=>
   obtain rfl:=Rd.wN he;exact⟨λ_=>rfl,λ_=>rfl⟩
  | int i'=>
   obtain rfl:=Rd.wC he;exact mis nofun
  | str h'=>
   obtain rfl:=Rd.wL he;exact mis nofun
  | tup hy=>
   refine za (Rd.wI he) λ_ e6 ry=>?_;subst e6;exact mis nofun
  | lst hy=>
   refine za (Rd.wS he) λ_ e6 ry=>?_;subst e6;exact mis nofun
 | int i=>
  intro j y hy d e hd he;obtain rfl:=Rd.wC hd;cases hy with
  | none=>
   obtain rfl:=Rd.wN he;exact mis nofun
  | int i'=>
   obtain rfl:=Rd.wC he;exact⟨λe=>congrArg AV.int (H7 e),λe=>beq_iff_eq.mpr (znv e)⟩
  | str h'=>
   obtain rfl:=Rd.wL he;exact mis nofun
  | tup hy=>
   refine za (Rd.wI he) λ_ e6 ry=>?_;subst e6;exact mis nofun
  | lst hy=>
   refine za (Rd.wS he) λ_ e6 ry=>?_;subst e6;exact mis nofun
 | str h=>
  intro j y hy d e hd he;obtain rfl:=Rd.wL hd;cases hy with
  | none=>
   obtain rfl:=Rd.wN he;exact mis nofun
  | int i'=>
   obtain rfl:=Rd.wC he;exact mis nofun
  | str h'=>
   obtain rfl:=Rd.wL he;exact⟨λe=>congrArg AV.str (ko h h' (H7 e)),λe=>by obtain rfl:=zsK e;exact on⟩
  | tup hy=>
   refine za (Rd.wI he) λ_ e6 ry=>?_;subst e6;exact mis nofun
  | lst hy=>
   refine za (Rd.wS he) λ_ e6 ry=>?_;subst e6;exact mis nofun
 | tup _ ih=>
  intro j y hy d e hd he;refine za (Rd.wI hd) λ_ e5 rx=>?_;subst e5;cases hy with
  | none=>
   obtain rfl:=Rd.wN he;exact mis nofun
  | int i'=>
   obtain rfl:=Rd.wC he;exact mis nofun
  | str h'=>
   obtain rfl:=Rd.wL he;exact mis nofun
  | tup hy=>
   refine za (Rd.wI he) λ_ e6 ry=>?_;subst e6;exact rQ (zkB rx ry λa ha b hb=>ih a ha (hy b hb)) ⟨congrArg AV.tup,zsL⟩
  | lst hy=>
   refine za (Rd.wS he) λ_ e6 ry=>?_;subst e6;exact mis nofun
 | lst _ ih=>
  intro j y hy d e hd he;refine za (Rd.wS hd) λ_ e5 rx=>?_;subst e5;cases hy with
  | none=>
   obtain rfl:=Rd.wN he;exact mis nofun
  | int i'=>
   obtain rfl:=Rd.wC he;exact mis nofun
  | str h'=>
   obtain rfl:=Rd.wL he;exact mis nofun
  | tup hy=>
   refine za (Rd.wI he) λ_ e6 ry=>?_;subst e6;exact mis nofun
  | lst hy=>
   refine za (Rd.wS he) λ_ e6 ry=>?_;subst e6;exact rQ (zkB rx ry λa ha b hb=>ih a ha (hy b hb)) ⟨congrArg AV.lst,zsJ⟩
theorem zcc(hx:sN k x)(hy:sN j y)(hk:k<=100)(h1:x=y->Q ag U)(h2:x≠y->Q ai U):tV x y Q U:=by
 refine za (hx.rd (U:=U)) λd r1 l1=>za (hy.rd (U:=U)) λe r2 l2=>?_;have:=hx.eqv hy d e r1 r2;unfold tV;refine .inl (zq d e r1 r2 (ap l1 hk) ?_);cases hb:aU d e with
 | true=>exact h1 (this.mp hb)
 | false=>exact h2 λq=>by rw[this.mpr q] at hb;exact nbo hb
theorem znu(hx:sN k x)(hd:Rd U x d)(h:∀y∈xs,sN k y)(r:tD U xs ds):(ds.any λy=>aU y d)=ag↔x∈xs:=by
 induction xs generalizing ds with
 | nil=>obtain rfl:=tD.wG r;simp
 | cons y ys ih=>
  refine zm (tD.wF r) λ_ _ DT r1 r2=>?_;subst DT;rw[List.any_cons,lX,ih (λz hz=>h z (al _ hz)) r2,(h y aj).eqv hx _ _ r1 hd,bR];exact or_congr ⟨d6,d6⟩ mK
theorem zck(hc:c = .lst xs\/c = .tup xs)(hx:sN k x)(h:∀y∈xs,sN k y)(hk:k<=100)(h1:x∈xs->Q ag U)(h2:x∉xs->Q ai U):uS x c Q U:=by
 refine za (hx.rd (U:=U)) λd r1 l1=>za (zeL (U:=U) λy hy=>(h y hy).rd) λds r2 l2=>?_;have:=znu hx r1 h r2;unfold uS;refine zq ds d ?_ r1 (ap l2 hk) ?_
 .rcases hc with rfl|rfl
  .exact .inl (.lst r2)
  .exact .inr (.tup r2)
 cases hb:(ds.any λy=>aU y d) with
 | true=>exact h1 (this.mp hb)
 | false=>exact h2 λq=>by rw[this.mpr q] at hb;exact nbo hb
theorem zol(hp:U p=ae (.list xs))(hx:sN k x)(h:∀y∈xs,sN k y)(hk:k<=100)(h1:x∈xs->Q ag U)(h2:x∉xs->Q ai U):inR x p Q U:=by
 refine za (hx.rd (U:=U)) λd r1 l1=>za (zeL (U:=U) λy hy=>(h y hy).rd) λds r2 l2=>?_;have:=znu hx r1 h r2;unfold inR uS;refine .inr (.inr (zq ds d (.inl (.list hp r2)) r1 (ap l2 hk) ?_));cases hb:(ds.any λy=>aU y d) with
 | true=>exact h1 (this.mp hb)
 | false=>exact h2 λq=>by rw[this.mpr q] at hb;exact nbo hb
theorem zqH(hp:U p=ae (.tdict kvs))(q:Q (sP.at kvs row).isSome U):inR (zE row) p Q U:=by
 unfold inR;exact .inl (zP kvs row hp rfl q)
theorem sD.same(q:Q v U):sD Q v U:=by
 unfold sD;exact kH (λ_=>af) U v ⟨λ_ _ h=>(nos h),λ_ _ h=>h⟩ (.same v) q
theorem sD.drop(h:∀a o,U' a=ae o->U a=ae o)(q:Q v U'):sD Q v U:=by
 unfold sD;exact kH (λ_=>af) U' v ⟨λ_ _ h=>(nos h),h⟩ (.same v) q
theorem sD.one{Q:zt}{p:aH}{xs:List AV}{U':su}(h:∀a o,U' a=ae o->U a=ae o)(hp:U p=ae (.list xs))(CN:U' p=af)(q:Q (.lst xs) U'):sD Q (.ref p) U:=by
 have same:∀φ (l:List AV),uW φ l l:=λφ l=>by
  induction l with
  | nil=>exact .nil
  | cons x l ih=>exact .cons (.same x) ih
 unfold sD;refine kH (λa=>if a=p then ae xs else af) U' (.lst xs) ⟨λa ys h1=>?_,h⟩ (.lst (if_pos rfl)) q;split at h1
 .rename_i e;subst e;obtain rfl:=Hz h1;exact zah CN xs hp (same _ _)
 .exact absurd (d6 h1) (aA _)
end
section
variable{I:su->Prop}{t:uF}{d:Dp}{U:su}{l:Loc}
theorem zlD{V β:Type}{g:V->AV}(J:List V->β->Loc->su->Prop)(f:β->V->β)
  (step:∀x xs b l U (K:Loc->su->Prop),J (x::xs) b l U->(∀l' U',J xs (f b x) l' U'->K l' U')->
   ∃l',j2 t (g x) l=ae l'/\body d l' (A.wM I K S) A.noX U)
  {xs:List V}{b:β}(fin:∀l U,J [] (xs.foldl f b) l U->S .next l U)(h:J xs b l U):vm I t body d S (xs.map g) l U:=by
 induction xs generalizing l U b with
 | nil=>exact fin l U h
 | cons x xs ih=>exact step x xs b l U _ h λl' U'=>ih (b:=f b x) fin
theorem qD{V β:Type}{g:V->AV}(J:List V->β->Loc->su->Prop)(f:β->V->β)
  (step:∀x xs b l U (K:Loc->su->Prop) (S:je),J (x::xs) b l U->(∀l' U',J xs (f b x) l' U'->K l' U')->
   ∃l',j2 t (g x) l=ae l'/\body d l' (A.wM I K S) A.noX U)
  {xs:List V}{b:β}(fin:∀l U,J [] (xs.foldl f b) l U->S .next l U)(h:J xs b l U):vm I t body d S (xs.map g) l U:=by
 induction xs generalizing l U b with
 | nil=>exact fin l U h
 | cons x xs ih=>exact step x xs b l U _ _ h λl' U'=>ih (b:=f b x) fin
theorem qB{V β γ:Type}{g:V->AV}(mk:β->γ->Loc)(J:List V->β->γ->su->Prop)(f:β->V->β)
  (step:∀x xs b c U (K:Loc->su->Prop) (S:je),J (x::xs) b c U->(∀c' U',J xs (f b x) c' U'->K (mk (f b x) c') U')->
   ∃l',j2 t (g x) (mk b c)=ae l'/\body d l' (A.wM I K S) A.noX U)
  {xs:List V}{b:β}{c:γ}(fin:∀c U,J [] (xs.foldl f b) c U->S .next (mk (xs.foldl f b) c) U)(h:J xs b c U):vm I t body d S (xs.map g) (mk b c) U:=by
 induction xs generalizing c U b with
 | nil=>exact fin c U h
 | cons x xs ih=>exact step x xs b c U _ _ h λc' U'=>ih (b:=f b x) fin
theorem qE{V β γ:Type}{g:V->AV}(mk:β->γ->Loc)(sg:β->su)(J:List V->β->Prop)(f:β->V->β)
  (step:∀x xs b c (K:Loc->su->Prop) (S:je),J (x::xs) b->J xs (f b x)/\((∀c',K (mk (f b x) c') (sg (f b x)))->∃l',j2 t (g x) (mk b c)=ae l'/\body d l' (A.wM I K S) A.noX (sg b)))
  {xs:List V}{b:β}{c:γ}(fin:∀c,S .next (mk (xs.foldl f b) c) (sg (xs.foldl f b)))(h:J xs b):vm I t body d S (xs.map g) (mk b c) (sg b):=by
 induction xs generalizing c b with
 | nil=>exact fin c
 | cons x xs ih=>exact(step x xs b c _ _ h).2 λc'=>ih (b:=f b x) fin (step x xs b c (λ_ _=>True) S h).1
theorem zlr{V:Type}(p:V->Bool)(g f:V->AV)(lx:V->Loc){xs:List V}(h0:∀x∈xs,j2 t (g x) l=ae (lx x))(h1:∀x∈xs,∀y∈xs,j2 t (g x) (lx y)=ae (lx x))
  (hc:∀x∈xs,∀R:Bool->su->Prop,R (p x) U->c d (lx x) (vp R) (λ_ _=>False) U)
  (he:∀x∈xs,p x=ag->∀R:zt,R (f x) U->elt d (lx x) R (λ_ _=>False) U)(hI:I U)(hl:acc.length+xs.length<=1000000)(q:Q (acc++(xs.filter p).map f) U):vn I t (ae c) elt d Q (xs.map g) acc l U:=by
 induction xs generalizing acc l with
 | nil=>have q:Q (acc++[]) U:=q;rw[bz] at q;exact q
 | cons x xs ih=>
  simp only[au] at hl;refine zf (lx x) (h0 x aj) (hc x aj _ ?_);have go:=λN8=>ih (acc:=N8) (l:=lx x) (λy hy=>h1 y (al _ hy) x aj) (λy hy z hz=>h1 y (al _ hy) z (al _ hz)) (λy hy=>hc y (al _ hy)) (λy hy=>he y (al _ hy));rw[ls] at q;cases hp:p x with
  | true=>
   rw[if_pos hp] at q;refine he x aj hp _ (zu hI (zxo hl) (go _ (by rw[aq,aG];exact zb 0x7a120482905280f42409243405006 rfl hl) ?_));rw[aR];exact q
  | false=>
   rw[if_neg (by rw[hp];exact cT)] at q;exact⟨hI,go _ (zxn hl) q⟩
theorem jm{V:Type}{xs:List V}{g:V->AV}(p:V->Bool)(f:V->AV){lx:V->Loc}(h0:∀x,j2 t (g x) l=ae (lx x))(h1:∀x y,j2 t (g x) (lx y)=ae (lx x))
  (hc:∀x∈xs,∀R:Bool->su->Prop,R (p x) U->c d (lx x) (vp R) (λ_ _=>False) U)
  (he:∀x∈xs,p x=ag->∀R:zt,R (f x) U->elt d (lx x) R (λ_ _=>False) U)(hI:I U)(hl:xs.length<=1000000)(q:Q ((xs.filter p).map f) U):vn I t (ae c) elt d Q (xs.map g) [] l U:=
 zlr p g f lx (λx _=>h0 x) (λx _ y _=>h1 x y) hc he hI (by rw[bG,ci];exact hl) q
theorem znM{V:Type}(g f:V->AV)(lx:V->Loc){xs:List V}(h0:∀x∈xs,j2 t (g x) l=ae (lx x))(h1:∀x∈xs,∀y∈xs,j2 t (g x) (lx y)=ae (lx x))
  (he:∀x∈xs,∀R:zt,R (f x) U->elt d (lx x) R (λ_ _=>False) U)(hI:I U)(hl:acc.length+xs.length<=1000000)(q:Q (acc++xs.map f) U):vn I t af elt d Q (xs.map g) acc l U:=by
 induction xs generalizing acc l with
 | nil=>have q:Q (acc++[]) U:=q;rw[bz] at q;exact q
 | cons x xs ih=>
  simp only[au] at hl;refine zf (lx x) (h0 x aj) (he x aj _ (zu hI (zxo hl) ?_));refine ih (λy hy=>h1 y (al _ hy) x aj) (λy hy z hz=>h1 y (al _ hy) z (al _ hz)) (λy hy=>he y (al _ hy)) (by rw[aq,aG];exact zb 0x7a120482905280f42409243405006 rfl hl) ?_;rw[aR];exact q
theorem z8{V:Type}{xs:List V}{g:V->AV}(f:V->AV){lx:V->Loc}(h0:∀x,j2 t (g x) l=ae (lx x))(h1:∀x y,j2 t (g x) (lx y)=ae (lx x))
  (he:∀x∈xs,∀R:zt,R (f x) U->elt d (lx x) R (λ_ _=>False) U)(hI:I U)(hl:xs.length<=1000000)(q:Q (xs.map f) U):vn I t af elt d Q (xs.map g) [] l U:=
 znM g f lx (λx _=>h0 x) (λx _ y _=>h1 x y) he hI (by rw[bG,ci];exact hl) q
end
theorem zqK(lo)(n):xf lo n=(bJ n).map (λi:Nat=>AV.int (lo+i)):=by
 induction n generalizing lo with
 | zero=>rfl
 | succ n ih=>
  rw[lK,aY,aL];show AV.int lo::xf (lo+1) n=_;rw[ih];refine congr (congrArg List.cons (by rw[Int.natCast_zero,lz])) (cw λi _=>?_)
  congr 1;exact y97
theorem zrs(n:Nat):xP 0 n=(bJ n).map (λi:Nat=>AV.int i):=by
 unfold xP;rw[zqK];have:((n:Int)-0).toNat=n:=zAx;rw[this];exact cw λi _=>by rw[Int.zero_add]
theorem zmy{n:Nat}(hn:n<=1000000):xu 0 n=ag:=by
 unfold xu;rw[Int.natAbs_natCast,Bool.and_eq_true_iff];exact⟨rfl,g7 (zAe hn)⟩
theorem zdm{K:List AV->Prop}(hn:n<=1000000)(h:K ((bJ n).map λi:Nat=>AV.int i)):uh (xu 0 n) (K (xP 0 n)):=jr (zmy hn) (by rw[zrs];exact h)
theorem atIdx_nat{V:Type}{xs:List V}{n:Nat}:jM xs (n:Int)=xs[n]?:=by unfold jM;rw[if_pos (cR n),dI]
section
open PySem.Spec
theorem zqL(hi:IntsAre vs ns):sw U h (ns.map AV.int) vs:=by
 induction hi with
 | nil=>exact .nil
 | cons _ _ _ ih=>exact .cons (.int _ _) ih
theorem head_of{prog:Hk}{w:cV}{s₁:ay}{mg mb:b7->Option aD}{K:fE}{c:ClaimW}{cl:b7->Option aH}{MS:ExcName->Option aD}{CA:List WData}{l fa:aH}{vs:List aD}{ns:List Int}
  (G:Gd ⟨prog,w,s₁.heap,s₁.os,mg,mb,[],af⟩ K)(hl:s₁.heap.IsList l vs.toArray)(hi:IntsAre vs ns)(Ct:ns.length<=1000000)(hg:s₁.gens = #[])(hr:∀cls,c.raises CA cls=ai)(JC:c.post CA (.bool ag) CA=ag)
  (Ll:∀(Q:zt) (Z:XP) (U:su),(∀U',Q (.bool ag) U')->sy ⟨prog,w,s₁.heap,s₁.os,mg,mb,[],af⟩ fa ⟨0,ai⟩ [.lst (ns.map .int)] Q Z U) :
  Hl (bq prog w) callerA (.call (.ref fa) ⟨[.ref l],[]⟩) (GoodW c cl MS CA s₁) s₁:=by
 have a:At ⟨prog,w,s₁.heap,s₁.os,mg,mb,[],af⟩ (λb=>if b=l then ae (.frz (ns.map .int)) else af) s₁:=by
  refine⟨λb o e=>e,λb o e=>?_,λb o e Ej=>?_,hg,rfl,(λL hL=>nomatch hL)⟩
  .split at e
   .rename_i hb;subst hb;obtain rfl:=Hz e;exact zz vs hl (zqL hi) (by simpa using Ct)
   .exact absurd (d6 e) (aA _)
  .split at e
   .obtain rfl:=Hz e;exact nbo Ej
   .exact absurd (d6 e) (aA _)
 have L:sK ⟨prog,w,s₁.heap,s₁.os,mg,mb,[],af⟩ ⟨0,ai⟩ callerA:=⟨by decide,by decide,λ_=>rfl,by decide,[],rfl,⟨(λe he=>nomatch he),(λL hL=>nomatch hL)⟩,(λe he=>nomatch he)⟩
 have hc:=Ll (λv _=>v = .bool ag) (λ_ _=>False) (sC λb=>if b=l then ae (.frz (ns.map .int)) else af) λ_=>rfl;unfold sy at hc;refine Hi (hc callerA s₁ [.ref l] _ rfl L a (.cons (.lst (if_pos rfl)) .nil)) λr s' x=>?_;cases r with
 | ok f=>
  cases f with
  | ret v=>
   refine zj x λav U' rv a' st Ng=>?_;subst Ng;obtain rfl:=sv.wP rv;exact zA (.inl (zK _ _ [] rfl hr (.bool ag) JC (λ_=>⟨.nil,λ_ h=>nomatch h⟩))) a'.keep a'.os a'.gens
  | next=>exact x.elim
  | brk=>exact x.elim
  | cont=>exact x.elim
 | error e=>exact noX x
end
section
set_option maxRecDepth 1000000
open PySem.Calls
noncomputable abbrev pw:Hk:=PySem.Challenge.pw_uf060002_08
noncomputable abbrev tI:OpenLaw:=PySem.Challenge.rw_uf060002_08
noncomputable def st(i:Nat):iR:=pw.main.body.getD i (.Pass ⟨0,0,0,0⟩)
noncomputable def co(x q:b7)(n:Nat)(l a:Int)(r s:Nat)(v w:aD)(z k:Nat):oz:=⟨.type "code",af,.fields #[.str x n,.str q (n+1),.str "/claim/cut.py" (n+2),.int l 0,.int a 0,.int 0 0,.int 0 0,.int 3 0,.ref r,.bool hV,.int 181 0,.ref s,.none,v,w,.ref z,.int (k:Int) 0,.int l 0,.str "/claim/cut.py" (k+1)],#[]⟩
noncomputable def hK(P:Hm):fE:=[(3,⟨.type "dict",af,.dict #[en P "__name__" 165 (.str "law_uf060002_08" 510),en P "__doc__" 166 (.none),en P "__package__" 167 (.none),en P "__loader__" 168 (.builtin "__main__.__loader__#opaque"),en P "__spec__" 169 (.none),en P "__annotations__" 170 (.ref 6),en P "__builtins__" 171 (.ref 4),en P "__file__" 173 (.str "/claim/cut.py" 172),en P "__cached__" 174 (.none),en P "MOST_DAY" 190 (.int 9999 189),en P "MOST_CENTS" 192 (.int 1000000000 191),en P "is_whole" 199 (.ref 21),en P "is_entry" 207 (.ref 28),en P "entry_of" 216 (.ref 35),en P "in_order" 222 (.ref 40),en P "groups" 235 (.ref 47),en P "TickError" 255 (.ref 57),en P "BadEntry" 271 (.ref 70),en P "BadSpan" 287 (.ref 82),en P "TooMany" 303 (.ref 94),en P "NoMatch" 319 (.ref 106),en P "MOST_BESIDE" 323 (.int 3 322),en P "is_rising" 332 (.ref 115),en P "marks_of" 338 (.ref 120),en P "fits" 344 (.ref 125),en P "rows_of" 350 (.ref 130),en P "by_size" 357 (.ref 137),en P "within" 363 (.ref 142),en P "without" 371 (.ref 147),en P "taken_out" 383 (.ref 154),en P "table" 389 (.ref 159),en P "picked" 395 (.ref 164),en P "MOST_SPAN" 399 (.int 30 398),en P "MOST_MARKS" 401 (.int 8 400),en P "Ledger" 509 (.ref 245),en P "_law_cell_at" 519 (.ref 256),en P "_law_entry" 529 (.ref 263),en P "_law_crowd" 535 (.ref 268),en P "_law_put" 548 (.ref 275),en P "_law_no_match" 560 (.ref 282),en P "_law_deed" 566 (.ref 287),en P "_law_rising" 576 (.ref 294),en P "_law_fits" 582 (.ref 299),en P "_law_look" 594 (.ref 306),en P "_law_holds" 600 (.ref 311),en P "_law_lead" 612 (.ref 318),en P "law" 618 (.ref 323)] 47,#[]⟩),(20,co "is_whole" "is_whole" 193 4 1 15 16 (.ref 17) (.ref 18) 19 197),(21,tt (st 3) (.str "tickoff.entries" 187) (.ref 20)),(27,co "is_entry" "is_entry" 200 6 2 22 23 (.ref 24) (.ref 25) 26 205),(28,tt (st 4) (.str "tickoff.entries" 187) (.ref 27)),(34,co "entry_of" "entry_of" 208 10 3 29 30 (.ref 31) (.ref 32) 33 214),(35,tt (st 5) (.str "tickoff.entries" 187) (.ref 34)),(39,co "in_order" "in_order" 217 14 2 36 37 (.none) (.none) 38 220),(40,tt (st 6) (.str "tickoff.entries" 187) (.ref 39)),(46,co "groups" "groups" 223 18 3 41 42 (.ref 43) (.ref 44) 45 233),(47,tt (st 7) (.str "tickoff.entries" 187) (.ref 46)),(56,⟨.type "dict",af,.dict #[en P "__module__" 245 (.str "tickoff.errors" 236),en P "__firstlineno__" 249 (.int 29 248),en P "__static_attributes__" 250 (.ref 55),en P "__weakref__" 252 (.ref 58),en P "__doc__" 253 (.none)] 3,#[]⟩),(57,{ cls:=.type "type",data:=.cls       { name:="TickError",bases:=[.type "ValueError"],mro:=[.ref 57,.type "ValueError",.type "Exception",.type "BaseException",.type "object"],ns:=56,qualname:="TickError",subclasses:=[.ref 70,.ref 82,.ref 94,.ref 106] },slots:=#[bb (.ref 48),cP,bb (.str "TickError" 238),bb (.str "TickError" 246),bb (.builtin "ValueError.__new__"),bb (.bool hV)] }),(69,⟨.type "dict",af,.dict #[en P "__module__" 263 (.str "tickoff.errors" 236),en P "__firstlineno__" 267 (.int 31 266),en P "__static_attributes__" 268 (.ref 68),en P "__doc__" 269 (.none)] 2,#[]⟩),(70,{ cls:=.type "type",data:=.cls       { name:="BadEntry",bases:=[.ref 57],mro:=[.ref 70,.ref 57,.type "ValueError",.type "Exception",.type "BaseException",.type "object"],ns:=69,qualname:="BadEntry" },slots:=#[bb (.ref 61),cP,bb (.str "BadEntry" 256),bb (.str "BadEntry" 264),bb (.builtin "ValueError.__new__"),bb (.bool hV)] }),(81,⟨.type "dict",af,.dict #[en P "__module__" 279 (.str "tickoff.errors" 236),en P "__firstlineno__" 283 (.int 33 282),en P "__static_attributes__" 284 (.ref 80),en P "__doc__" 285 (.none)] 2,#[]⟩),(82,{ cls:=.type "type",data:=.cls       { name:="BadSpan",bases:=[.ref 57],mro:=[.ref 82,.ref 57,.type "ValueError",.type "Exception",.type "BaseException",.type "object"],ns:=81,qualname:="BadSpan" },slots:=#[bb (.ref 73),cP,bb (.str "BadSpan" 272),bb (.str "BadSpan" 280),bb (.builtin "ValueError.__new__"),bb (.bool hV)] }),(93,⟨.type "dict",af,.dict #[en P "__module__" 295 (.str "tickoff.errors" 236),en P "__firstlineno__" 299 (.int 35 298),en P "__static_attributes__" 300 (.ref 92),en P "__doc__" 301 (.none)] 2,#[]⟩),(94,{ cls:=.type "type",data:=.cls       { name:="TooMany",bases:=[.ref 57],mro:=[.ref 94,.ref 57,.type "ValueError",.type "Exception",.type "BaseException",.type "object"],ns:=93,qualname:="TooMany" },slots:=#[bb (.ref 85),cP,bb (.str "TooMany" 288),bb (.str "TooMany" 296),bb (.builtin "ValueError.__new__"),bb (.bool hV)] }),(105,⟨.type "dict",af,.dict #[en P "__module__" 311 (.str "tickoff.errors" 236),en P "__firstlineno__" 315 (.int 37 314),en P "__static_attributes__" 316 (.ref 104),en P "__doc__" 317 (.none)] 2,#[]⟩),(106,{ cls:=.type "type",data:=.cls       { name:="NoMatch",bases:=[.ref 57],mro:=[.ref 106,.ref 57,.type "ValueError",.type "Exception",.type "BaseException",.type "object"],ns:=105,qualname:="NoMatch" },slots:=#[bb (.ref 97),cP,bb (.str "NoMatch" 304),bb (.str "NoMatch" 312),bb (.builtin "ValueError.__new__"),bb (.bool hV)] }),(114,co "is_rising" "is_rising" 324 41 2 109 110 (.ref 111) (.ref 112) 113 330),(115,tt (st 16) (.str "tickoff.matching" 320) (.ref 114)),(119,co "marks_of" "marks_of" 333 48 1 116 117 (.none) (.none) 118 336),(120,tt (st 17) (.str "tickoff.matching" 320) (.ref 119)),(124,co "fits" "fits" 339 50 4 121 122 (.none) (.none) 123 342),(125,tt (st 18) (.str "tickoff.matching" 320) (.ref 124)),(129,co "rows_of" "rows_of" 345 61 2 126 127 (.none) (.none) 128 348),(130,tt (st 19) (.str "tickoff.matching" 320) (.ref 129)),(136,co "by_size" "by_size" 351 69 1 131 132 (.ref 133) (.ref 134) 135 355),(137,tt (st 20) (.str "tickoff.matching" 320) (.ref 136)),(141,co "within" "within" 358 71 4 138 139 (.none) (.none) 140 361),(142,tt (st 21) (.str "tickoff.matching" 320) (.ref 141)),(146,co "without" "without" 366 82 2 143 144 (.none) (.none) 145 369),(147,tt (st 23) (.str "tickoff.picking" 364) (.ref 146)),(153,co "taken_out" "taken_out" 372 87 2 148 149 (.ref 150) (.ref 151) 152 381),(154,tt (st 24) (.str "tickoff.picking" 364) (.ref 153)),(158,co "table" "table" 384 96 2 155 156 (.none) (.none) 157 387),(159,tt (st 25) (.str "tickoff.picking" 364) (.ref 158)),(163,co "picked" "picked" 390 118 2 160 161 (.none) (.none) 162 393),(164,tt (st 26) (.str "tickoff.picking" 364) (.ref 163)),(177,co "__init__" "Ledger.__init__" 414 135 2 172 173 (.ref 174) (.ref 175) 176 419),(178,vf (uX (st 30) 0) "Ledger.__init__" (.str "tickoff.ledger" 396) (.ref 177)),(184,co "all_groups" "Ledger.all_groups" 422 143 1 179 180 (.ref 181) (.ref 182) 183 426),(185,vf (uX (st 30) 1) "Ledger.all_groups" (.str "tickoff.ledger" 396) (.ref 184)),(189,co "pick" "Ledger.pick" 429 146 2 186 187 (.none) (.none) 188 432),(190,vf (uX (st 30) 2) "Ledger.pick" (.str "tickoff.ledger" 396) (.ref 189)),(196,co "put" "Ledger.put" 435 151 4 191 192 (.ref 193) (.ref 194) 195 444),(197,vf (uX (st 30) 3) "Ledger.put" (.str "tickoff.ledger" 396) (.ref 196)),(203,co "entry" "Ledger.entry" 447 163 3 198 199 (.ref 200) (.ref 201) 202 453),(204,vf (uX (st 30) 4) "Ledger.entry" (.str "tickoff.ledger" 396) (.ref 203)),(210,co "matches" "Ledger.matches" 456 166 1 205 206 (.ref 207) (.ref 208) 209 460),(211,vf (uX (st 30) 5) "Ledger.matches" (.str "tickoff.ledger" 396) (.ref 210)),(217,co "barred" "Ledger.barred" 463 169 1 212 213 (.ref 214) (.ref 215) 216 467),(218,vf (uX (st 30) 6) "Ledger.barred" (.str "tickoff.ledger" 396) (.ref 217)),(222,co "left" "Ledger.left" 470 172 2 219 220 (.none) (.none) 221 473),(223,vf (uX (st 30) 7) "Ledger.left" (.str "tickoff.ledger" 396) (.ref 222)),(227,co "group_of" "Ledger.group_of" 476 178 3 224 225 (.none) (.none) 226 479),(228,vf (uX (st 30) 8) "Ledger.group_of" (.str "tickoff.ledger" 396) (.ref 227)),(234,co "take_back" "Ledger.take_back" 482 181 2 229 230 (.ref 231) (.ref 232) 233 487),(235,vf (uX (st 30) 9) "Ledger.take_back" (.str "tickoff.ledger" 396) (.ref 234)),(241,co "again" "Ledger.again" 490 187 1 236 237 (.ref 238) (.ref 239) 240 495),(242,vf (uX (st 30) 10) "Ledger.again" (.str "tickoff.ledger" 396) (.ref 241)),(244,⟨.type "dict",af,.dict #[en P "__module__" 409 (.str "tickoff.ledger" 396),en P "__firstlineno__" 413 (.int 133 412),en P "__init__" 421 (.ref 178),en P "all_groups" 428 (.ref 185),en P "pick" 434 (.ref 190),en P "put" 446 (.ref 197),en P "entry" 455 (.ref 204),en P "matches" 462 (.ref 211),en P "barred" 469 (.ref 218),en P "left" 475 (.ref 223),en P "group_of" 481 (.ref 228),en P "take_back" 489 (.ref 235),en P "again" 497 (.ref 242),en P "__static_attributes__" 502 (.ref 243),en P "__dict__" 504 (.ref 246),en P "__weakref__" 506 (.ref 247),en P "__doc__" 507 (.none)] 4,#[]⟩),(245,{ cls:=.type "type",data:=.cls       { name:="Ledger",bases:=[.type "object"],mro:=[.ref 245,.type "object"],ns:=244,qualname:="Ledger" },slots:=#[cP,cP,bb (.str "Ledger" 402),bb (.str "Ledger" 410),bb (.builtin "object.__new__"),bb (.bool hV)] }),(255,co "_law_cell_at" "_law_cell_at" 512 191 2 250 251 (.ref 252) (.ref 253) 254 517),(256,tt (st 32) (.str "law_uf060002_08" 510) (.ref 255)),(262,co "_law_entry" "_law_entry" 520 195 2 257 258 (.ref 259) (.ref 260) 261 527),(263,tt (st 33) (.str "law_uf060002_08" 510) (.ref 262)),(267,co "_law_crowd" "_law_crowd" 530 201 3 264 265 (.none) (.none) 266 533),(268,tt (st 34) (.str "law_uf060002_08" 510) (.ref 267)),(274,co "_law_put" "_law_put" 536 211 4 269 270 (.ref 271) (.ref 272) 273 546),(275,tt (st 35) (.str "law_uf060002_08" 510) (.ref 274)),(281,co "_law_no_match" "_law_no_match" 549 221 5 276 277 (.ref 278) (.ref 279) 280 558),(282,tt (st 36) (.str "law_uf060002_08" 510) (.ref 281)),(286,co "_law_deed" "_law_deed" 561 233 4 283 284 (.none) (.none) 285 564),(287,tt (st 37) (.str "law_uf060002_08" 510) (.ref 286)),(293,co "_law_rising" "_law_rising" 567 251 2 288 289 (.ref 290) (.ref 291) 292 574),(294,tt (st 38) (.str "law_uf060002_08" 510) (.ref 293)),(298,co "_law_fits" "_law_fits" 577 260 3 295 296 (.none) (.none) 297 580),(299,tt (st 39) (.str "law_uf060002_08" 510) (.ref 298)),(305,co "_law_look" "_law_look" 583 270 2 300 301 (.ref 302) (.ref 303) 304 592),(306,tt (st 40) (.str "law_uf060002_08" 510) (.ref 305)),(310,co "_law_holds" "_law_holds" 595 283 3 307 308 (.none) (.none) 309 598),(311,tt (st 41) (.str "law_uf060002_08" 510) (.ref 310)),(317,co "_law_lead" "_law_lead" 601 305 3 312 313 (.ref 314) (.ref 315) 316 610),(318,tt (st 42) (.str "law_uf060002_08" 510) (.ref 317)),(322,co "law" "law" 613 311 1 319 320 (.none) (.none) 321 616),(323,tt (st 43) (.str "law_uf060002_08" 510) (.ref 322))]
noncomputable def hA:List aH:=[3,20,21,27,28,34,35,39,40,46,47,56,57,69,70,81,82,93,94,105,106,114,115,119,120,124,125,129,130,136,137,141,142,146,147,153,154,158,159,163,164,177,178,184,185,189,190,196,197,203,204,210,211,217,218,222,223,227,228,234,235,241,242,244,245,255,256,262,263,267,268,274,275,281,282,286,287,293,294,298,299,305,306,310,311,317,318,322,323]
noncomputable def qv:Hk:={ pw with main:={ pw.main with body:=[st 43] } }
noncomputable def xZ:List b7:=[("MOST_DAY" : b7),("MOST_CENTS" : b7),("is_whole" : b7),("is_entry" : b7),("entry_of" : b7),("in_order" : b7),("groups" : b7),("TickError" : b7),("BadEntry" : b7),("BadSpan" : b7),("TooMany" : b7),("NoMatch" : b7),("MOST_BESIDE" : b7),("is_rising" : b7),("marks_of" : b7),("fits" : b7),("rows_of" : b7),("by_size" : b7),("within" : b7),("without" : b7),("taken_out" : b7),("table" : b7),("picked" : b7),("MOST_SPAN" : b7),("MOST_MARKS" : b7),("Ledger" : b7),("_law_cell_at" : b7),("_law_entry" : b7),("_law_crowd" : b7),("_law_put" : b7),("_law_no_match" : b7),("_law_deed" : b7),("_law_rising" : b7),("_law_fits" : b7),("_law_look" : b7),("_law_holds" : b7),("_law_lead" : b7)]
noncomputable def hH:Hook:=kHook hK hA (λ_=>by kernel_rfl)
noncomputable def hX(s:ay):Bool:=xlAt qv [] s&&recOk [] s
noncomputable def dL:DefRec×List (b7×Expr):=(defOf qv "law").get (by kernel_rfl)
theorem zzE:tI.wellSaid=ag:=by
 rw[PySem.W.Fast.te9446332074065402090]
 kernel_rfl
theorem zvh(w)(os):(PySem.W.Fast.tw10110043849684766642 PySem.W.Fast.tw14364793385576792824 pw w 11 (ae (.ref 6)) 0 2478 (AH w os) (topStub pw)).map (λr=>AF pw qv xZ hX hH.obs w.params r.2.1.abs)=ae (ag,openGood qv xZ,hH.val w):=by kernel_rfl
theorem left:LeftO pw qv xZ hX hH.obs hH.val 2478:=by
 refine zl1 (by kernel_rfl) (by kernel_rfl) (λs=>by kernel_rfl) λw os=>?_;rw[PySem.W.Fast.te10110043849684766642,PySem.W.Fast.te14364793385576792824];exact zvh w os
theorem hd(h:WalkO qv xZ (XL qv []) hH.says tI.row.toRowW dL.1 dL.2 λf vs=>eP f vs):tI.Holds:=by
 refine holds_law zzE λKY=>?_;refine holds_open (q:=qv) (loose:=xZ) (Xt:=hX) (XP:=XL qv []) (Yf:=hH.obs) (Ya:=hH.val) (YP:=hH.says) (N:=2478) (d:=dL.1) (kwd:=dL.2) left hH.of hH.keeps (λs e=>xl_of s (Bool.and_eq_true_iff.mp e).1) XL.keeps (by kernel_rfl) (by kernel_rfl) (by kernel_rfl) (λs e=>recFacts_of (Bool.and_eq_true_iff.mp e).2) (by kernel_rfl) KY (by kernel_rfl) ⟨rfl,rfl,rfl,rfl,rfl,by decide +kernel⟩ ?hw h;exact⟨[.list []],by decide +kernel,by decide +kernel⟩
theorem dL_name:dL.1.name = "law":=by kernel_rfl
end
open A renaming loc -> Ga, k -> Gb, cons -> Gc, nil -> Ge, bin -> Gf, idx -> Gg, set -> Gh, cmp -> Gi, prim -> Gj, ret -> Gk, wD -> Gm, tup -> Gn, itP -> Gp, if_ -> Gq, lst -> Gr, ex -> Gs, lc -> Gu, wJ -> Gv, meth -> Gw, wO -> Gx, fr -> Gy, wR -> Gz, wM -> G0, noX -> G1, wT -> G2, neg -> G3, isa -> G4, isx -> G5, wW -> G6, wZ -> G7, dic -> G8
section
set_option maxRecDepth 1000000
noncomputable abbrev ta(f:aH)(m:Cx->AS)(as:List AV)(l:Loc):Prop:=∀{P:Hm} {X:Cx} {n:Nat} {hb:Bool} {Q:zt} {Z:XP} {U:su},Gd X (hK P)->n<600->(∀L,m (X.push L) ⟨n+1,hb⟩ l (A.vG Q) (A.kEz Z) U)->sy X f ⟨n,hb⟩ as Q Z U
variable{a0 a1 a2 a3 a4 a5:AV}
noncomputable def Ay:List (aH×List aH):=[(57,[]),(70,[57]),(82,[57]),(94,[57]),(106,[57])]
theorem zs1(P):vz (hK P) Ay:=by
 intro p hp;simp only[Ay,bR,aZ,or_false] at hp
 rcases hp with rfl|rfl|rfl|rfl|rfl
 all_goals exact⟨by kernel_rfl,by kernel_rfl,by kernel_rfl,by kernel_rfl,by kernel_rfl,by kernel_rfl⟩
theorem kOf{f:aH}{m:Cx->AS}{as:List AV}{l:Loc}(refs:List (Nat×Nat))(k:Nat)(v:List b7)(c:∀P X,cF X (hK P) 245 Ay f refs (oT k v) (List.zipIdx v)=ae (m X))(b:∀P vs,vs.length=(oT k v).length->(vR (hK P) f).map (λfd=>dX fd ⟨vs,[]⟩)=ae (b9 ((oT k v).zip vs)))(hl:as.length=(oT k v).length)(e:vO as (jR (List.zipIdx v))=l):ta f m as l:=λ{P} _ _ _ _ _ _ G hd h=>zuL _ _ G (zs1 P) (c P) (b P) hd hl λL=>e▸h L
def zjn(X:Cx):AS:=(Gc (Gk (kr [G4 .int (Ga 0),Gx (G4 .bool (Ga 0))])) Ge)
theorem zjb:ta 21 zjn [a0] [ae a0]:=@kOf _ _ _ _ [] 1 ["thing"] (λ_ _=>by kernel_rfl) (λP=>za0 λa0=>by kernel_rfl) rfl rfl
def zjm(X:Cx):AS:=(Gc (Gq (tK [Gx (Gm X 21 [Ga 0]),Gx (Gm X 21 [Ga 1]),Gi (Ga 1) [(.Eq,(Gb (.int 0)))]]) (Gc (Gk (Gb (.bool ai))) Ge) Ge) (Gc (Gk (kr [Gi (Gb (.int 0)) [(.LtE,(Ga 0)),(.LtE,(Gb (.int 9999)))],Gi (Gf ai .Sub (Gb (.int 0)) (Gb (.int 1000000000))) [(.LtE,(Ga 1)),(.LtE,(Gb (.int 1000000000)))]])) Ge))
theorem zja:ta 28 zjm [a0,a1] [ae a0,ae a1]:=@kOf _ _ _ _ [] 2 ["day","cents"] (λ_ _=>by kernel_rfl) (λP=>j4 λa0 a1=>by kernel_rfl) rfl rfl
def zjj(X:Cx):AS:=(Gc (Gq (Gi (Gg (Ga 2) (Gb (.int 0))) [(.Eq,(Gb (.str 0)))]) (Gc (Gk (Gg (Ga 0) (Gg (Ga 2) (Gb (.int 1))))) Ge) Ge) (Gc (Gk (Gg (Ga 1) (Gg (Ga 2) (Gb (.int 1))))) Ge))
theorem zi7:ta 35 zjj [a0,a1,a2] [ae a0,ae a1,ae a2]:=@kOf _ _ _ _ [] 3 ["banks","books","mark"] (λ_ _=>by kernel_rfl) (λP=>zbK λa0 a1 a2=>by kernel_rfl) rfl rfl
def zjl(X:Cx):AS:=(Gc (Gh 2 (Gu ai (Gp (Gj kO ai [Gj jI ai [Ga 0]])) (.one 4) 2 af (Gn [Gg (Gg (Ga 0) (Ga 4)) (Gb (.int 0)),Gb (.str 0),Ga 4]))) (Gc (Gh 2 (Gf ai .Add (Ga 2) (Gu ai (Gp (Gj kO ai [Gj jI ai [Ga 1]])) (.one 4) 2 af (Gn [Gg (Gg (Ga 1) (Ga 4)) (Gb (.int 0)),Gb (.str 1),Ga 4])))) (Gc (Gk (Gu ai (Gp (Gj xw ai [Ga 2])) (.many [4,5,6]) 4 af (Gn [Ga 5,Ga 6]))) Ge)))
theorem zi9:ta 40 zjl [a0,a1] [ae a0,ae a1,af]:=@kOf _ _ _ _ [] 2 ["banks","books","rows"] (λ_ _=>by kernel_rfl) (λP=>j4 λa0 a1=>by kernel_rfl) rfl rfl
def BC(X:Cx):AS:=(Gc (Gh 6 (Gg (Gm X 35 [Ga 0,Ga 1,Ga 5]) (Gb (.int 0)))) (Gc (Gq (tK [Gi (Ga 4) [(.Is,(Gb .none))],Gi (Ga 6) [(.Gt,(Gf ai .Add (Ga 4) (Ga 2)))]]) (Gc (Gs (Gw zX (Ga 3) [Gr ag []])) Ge) Ge) (Gc (Gs (Gw zX (Gg (Ga 3) (G3 (Gb (.int 1)))) [Ga 5])) (Gc (Gh 4 (Ga 6)) Ge))))
def zoT(X:Cx):AS:=(Gc (Gh 3 (Gr ag [])) (Gc (Gh 4 (Gb .none)) (Gc (Gy (Gp (Gm X 40 [Ga 0,Ga 1])) (.one 5) (BC X)) (Gc (Gk (Ga 3)) Ge))))
theorem zou:ta 47 zoT [a0,a1,a2] [ae a0,ae a1,ae a2,af,af,af,af]:=@kOf _ _ _ _ [(19,12),(24,25)] 3 ["banks","books","span","found","last","mark","day"] (λ_ _=>by kernel_rfl) (λP=>zbK λa0 a1 a2=>by kernel_rfl) rfl rfl
def zes(X:Cx):AS:=(Gc (Gq (Gx (Gi (Gb (.int 0)) [(.LtE,(Gg (Ga 0) (Ga 2))),(.Lt,(Ga 1))])) (Gc (Gk (Gb (.bool ai))) Ge) Ge) (Gc (Gq (kr [Gi (Ga 2) [(.Gt,(Gb (.int 0)))],Gi (Gg (Ga 0) (Ga 2)) [(.LtE,(Gg (Ga 0) (Gf ai .Sub (Ga 2) (Gb (.int 1)))))]]) (Gc (Gk (Gb (.bool ai))) Ge) Ge) Ge))
def zhI(X:Cx):AS:=(Gc (Gy (Gp (Gj kO ai [Gj jI ai [Ga 0]])) (.one 2) (zes X)) (Gc (Gk (Gb (.bool ag))) Ge))
theorem zhz:ta 115 zhI [a0,a1] [ae a0,ae a1,af]:=@kOf _ _ _ _ [] 2 ["places","many","k"] (λ_ _=>by kernel_rfl) (λP=>j4 λa0 a1=>by kernel_rfl) rfl rfl
def zjp(X:Cx):AS:=(Gc (Gk (Gf ai .Add (Gu ai (Gp (Gg (Ga 0) (Gb (.int 0)))) (.one 2) 2 af (Gn [Gb (.str 0),Ga 2])) (Gu ai (Gp (Gg (Ga 0) (Gb (.int 1)))) (.one 2) 2 af (Gn [Gb (.str 1),Ga 2])))) Ge)
theorem zjd:ta 120 zjp [a0] [ae a0]:=@kOf _ _ _ _ [] 1 ["match"] (λ_ _=>by kernel_rfl) (λP=>za0 λa0=>by kernel_rfl) rfl rfl
def ztt(X:Cx):AS:=(Gc (Gh 4 (Gj wv ai [Gj jI ai [Gg (Ga 3) (Gb (.int 0))],Gj jI ai [Gg (Ga 3) (Gb (.int 1))]])) (Gc (Gh 5 (Gj xc ai [Gj jI ai [Gg (Ga 3) (Gb (.int 0))],Gj jI ai [Gg (Ga 3) (Gb (.int 1))]])) (Gc (Gq (tK [Gi (Ga 4) [(.NotEq,(Gb (.int 1)))],Gi (Ga 5) [(.Gt,(Gb (.int 3)))]]) (Gc (Gk (Gb (.bool ai))) Ge) Ge) (Gc (Gq (tK [Gx (Gm X 115 [Gg (Ga 3) (Gb (.int 0)),Gj jI ai [Ga 0]]),Gx (Gm X 115 [Gg (Ga 3) (Gb (.int 1)),Gj jI ai [Ga 1]])]) (Gc (Gk (Gb (.bool ai))) Ge) Ge) (Gc (Gq (Gi (Gj xr ai [Gu ai (Gp (Gg (Ga 3) (Gb (.int 0)))) (.one 8) 2 af (Gg (Gg (Ga 0) (Ga 8)) (Gb (.int 1)))]) [(.NotEq,(Gj xr ai [Gu ai (Gp (Gg (Ga 3) (Gb (.int 1)))) (.one 8) 2 af (Gg (Gg (Ga 1) (Ga 8)) (Gb (.int 1)))]))]) (Gc (Gk (Gb (.bool ai))) Ge) Ge) (Gc (Gh 6 (Gu ai (Gp (Gm X 120 [Ga 3])) (.one 8) 2 af (Gg (Gm X 35 [Ga 0,Ga 1,Ga 8]) (Gb (.int 0))))) (Gc (Gk (Gi (Gf ai .Sub (Gj xc ai [Ga 6]) (Gj wv ai [Ga 6])) [(.LtE,(Ga 2))])) Ge)))))))
theorem ztd:ta 125 ztt [a0,a1,a2,a3] [ae a0,ae a1,ae a2,ae a3,af,af,af]:=@kOf _ _ _ _ [] 4 ["banks","books","span","match","few","many","days"] (λ_ _=>by kernel_rfl) (λP=>zdT λa0 a1 a2 a3=>by kernel_rfl) rfl rfl
def BI(X:Cx):AS:=(Gc (Gh 4 (Gf ai .Add (Ga 4) (Gu ai (Gp (Ga 0)) (.one 7) 2 (ae (tK [Gi (Ga 5) [(.Eq,(Gn []))],Gi (Ga 7) [(.Gt,(Gg (Ga 5) (G3 (Gb (.int 1)))))]])) (Gf ai .Add (Ga 5) (Gn [Ga 7]))))) Ge)
def Cr(X:Cx):AS:=(Gc (Gh 4 (Gr ai [])) (Gc (Gy (Gp (Ga 2)) (.one 5) (BI X)) (Gc (Gh 2 (Ga 4)) Ge)))
def zmg(X:Cx):AS:=(Gc (Gh 2 (Gr ai [Gn []])) (Gc (Gy (Gp (Gj kO ai [Ga 1])) (.one 3) (Cr X)) (Gc (Gk (Ga 2)) Ge)))
theorem zlR:ta 130 zmg [a0,a1] [ae a0,ae a1,af,af,af,af]:=@kOf _ _ _ _ [] 2 ["places","many","rows","turn","longer","row"] (λ_ _=>by kernel_rfl) (λP=>j4 λa0 a1=>by kernel_rfl) rfl rfl
def zmb(X:Cx):AS:=(Gc (Gk (Gn [Gf ai .Add (Gj jI ai [Gg (Ga 0) (Gb (.int 0))]) (Gj jI ai [Gg (Ga 0) (Gb (.int 1))]),Ga 0])) Ge)
theorem zlN:ta 137 zmb [a0] [ae a0]:=@kOf _ _ _ _ [] 1 ["match"] (λ_ _=>by kernel_rfl) (λP=>za0 λa0=>by kernel_rfl) rfl rfl
def Cd(X:Cx):AS:=(Gc (Gq (Gm X 125 [Ga 0,Ga 1,Ga 2,Gn [Ga 8,Ga 9]]) (Gc (Gs (Gw zX (Ga 6) [Gn [Ga 8,Ga 9]])) Ge) Ge) Ge)
def C1(X:Cx):AS:=(Gc (Gy (Gp (Gm X 130 [Ga 5,Gg (Ga 7) (Gb (.int 1))])) (.one 9) (Cd X)) Ge)
def C4(X:Cx):AS:=(Gc (Gy (Gp (Gm X 130 [Ga 4,Gg (Ga 7) (Gb (.int 0))])) (.one 8) (C1 X)) Ge)
def zoW(X:Cx):AS:=(Gc (Gh 4 (Gj xw ai [Gu ai (Gp (Ga 3)) (.many [11,12]) 3 (ae (Gi (Ga 11) [(.Eq,(Gb (.str 0)))])) (Ga 12)])) (Gc (Gh 5 (Gj xw ai [Gu ai (Gp (Ga 3)) (.many [11,12]) 3 (ae (Gi (Ga 11) [(.Eq,(Gb (.str 1)))])) (Ga 12)])) (Gc (Gh 6 (Gr ag [])) (Gc (Gy (Gp (Gn [Gn [Gb (.int 1),Gb (.int 1)],Gn [Gb (.int 1),Gb (.int 2)],Gn [Gb (.int 2),Gb (.int 1)],Gn [Gb (.int 1),Gb (.int 3)],Gn [Gb (.int 3),Gb (.int 1)]])) (.one 7) (C4 X)) (Gc (Gk (A.w9 X 137 ai (Ga 6))) Ge)))))
theorem zox:ta 142 zoW [a0,a1,a2,a3] [ae a0,ae a1,ae a2,ae a3,af,af,af,af,af,af]:=@kOf _ _ _ _ [(74,12)] 4 ["banks","books","span","group","ones","others","found","sizes","left","right"] (λ_ _=>by kernel_rfl) (λP=>zdT λa0 a1 a2 a3=>by kernel_rfl) rfl rfl
def zgo(X:Cx):AS:=(Gc (Gq (Gi (Ga 2) [(.NotIn,(Ga 0))]) (Gc (Gk (Gb .none)) Ge) Ge) Ge)
def zmh(X:Cx):AS:=(Gc (Gy (Gp (Ga 1)) (.one 2) (zgo X)) (Gc (Gk (Gj xX ai [Gu ai (Gp (Ga 0)) (.one 4) 2 (ae (Gi (Ga 4) [(.NotIn,(Ga 1))])) (Ga 4)])) Ge))
theorem zlS:ta 147 zmh [a0,a1] [ae a0,ae a1,af]:=@kOf _ _ _ _ [] 2 ["rest","marks","mark"] (λ_ _=>by kernel_rfl) (λP=>j4 λa0 a1=>by kernel_rfl) rfl rfl
def zeu(X:Cx):AS:=(Gc (Gh 4 (Gm X 120 [Ga 3])) (Gc (Gq (Gi (Gg (Ga 0) (Gb (.int 0))) [(.In,(Ga 4))]) (Gc (Gh 5 (Gm X 147 [Ga 0,Ga 4])) (Gc (Gq (Gi (Ga 5) [(.IsNot,(Gb .none))]) (Gc (Gs (Gw zX (Ga 2) [Gn [Ga 3,Ga 5]])) Ge) Ge) Ge)) Ge) Ge))
def zhN(X:Cx):AS:=(Gc (Gh 2 (Gr ag [])) (Gc (Gy (Gp (Ga 1)) (.one 3) (zeu X)) (Gc (Gk (Ga 2)) Ge)))
theorem zhB:ta 154 zhN [a0,a1] [ae a0,ae a1,af,af,af,af]:=@kOf _ _ _ _ [(88,12)] 2 ["rest","matches","found","match","marks","behind"] (λ_ _=>by kernel_rfl) (λP=>j4 λa0 a1=>by kernel_rfl) rfl rfl
def B8(X:Cx):AS:=(Gc (Gq (Gi (Ga 8) [(.NotIn,(Ga 3))]) (Gc (Gz (Gb (.bool ag)) (Ga 3) (Ga 8)) (Gc (Gs (Gw zX (Ga 4) [Ga 8])) Ge)) Ge) Ge)
def zjr(X:Cx):AS:=(Gc (Gh 6 (Gg (Ga 4) (Ga 5))) (Gc (Gh 5 (Gf ai .Add (Ga 5) (Gb (.int 1)))) (Gc (Gh 7 (Gr ai [])) (Gc (Gq (Gi (Ga 6) [(.NotEq,(Gn []))]) (Gc (Gh 7 (Gf ai .Add (Gr ai [G7 ai (Ga 6) (ae (Gb (.int 1))) af]) (Gu ai (Gp (Gm X 154 [Ga 6,Ga 1])) (.many [12,13]) 3 af (Ga 13)))) Ge) Ge) (Gc (Gy (Gp (Ga 7)) (.one 8) (B8 X)) Ge)))))
def BO(X:Cx):AS:=(Gc (Gz (Gb (.int 0)) (Ga 9) (Ga 6)) (Gc (Gq (Gi (Ga 6) [(.NotEq,(Gn []))]) (Gc (Gh 10 (Gu ai (Gp (Gm X 154 [Ga 6,Ga 1])) (.many [12,13]) 3 af (Gg (Ga 9) (Ga 13)))) (Gc (Gz (Gj wv ai [Gf ai .Add (Gr ai [Gf ai .Add (Gb (.int 1)) (Gg (Ga 9) (G7 ai (Ga 6) (ae (Gb (.int 1))) af))]) (Ga 10)]) (Ga 9) (Ga 6)) Ge)) Ge) Ge))
def zrb(X:Cx):AS:=(Gc (Gh 2 (Gj xX ai [Ga 0])) (Gc (Gh 3 (A.dT1 (Ga 2) (Gb (.bool ag)))) (Gc (Gh 4 (Gr ag [Ga 2])) (Gc (Gh 5 (Gb (.int 0))) (Gc (A.w3 (Gi (Ga 5) [(.Lt,(Gj jI ai [Ga 4]))]) (zjr X)) (Gc (Gh 9 A.dT0) (Gc (Gy (Gp (A.w2 ai (Ga 4))) (.one 6) (BO X)) (Gc (Gk (Ga 9)) Ge))))))))
theorem zqR:ta 159 zrb [a0,a1] [ae a0,ae a1,af,af,af,af,af,af,af,af,af]:=@kOf _ _ _ _ [(99,10)] 2 ["group","matches","begin","met","row","at","rest","nexts","behind","least","some"] (λ_ _=>by kernel_rfl) (λP=>j4 λa0 a1=>by kernel_rfl) rfl rfl
def zhK(X:Cx):AS:=(Gc (Gh 5 (Gu ai (Gp (Gm X 154 [Ga 3,Ga 1])) (.many [7,8]) 3 (ae (Gi (Gg (Ga 2) (Ga 8)) [(.Eq,(Gg (Ga 2) (Ga 3)))])) (Gn [Ga 7,Ga 8]))) (Gc (Gq (Gi (Ga 5) [(.Eq,(Gr ai []))]) (Gc (Gh 3 (G7 ai (Ga 3) (ae (Gb (.int 1))) af)) Ge) (Gc (Gs (Gw zX (Ga 4) [Gg (Gg (Ga 5) (Gb (.int 0))) (Gb (.int 0))])) (Gc (Gh 3 (Gg (Gg (Ga 5) (Gb (.int 0))) (Gb (.int 1)))) Ge))) Ge))
def zoU(X:Cx):AS:=(Gc (Gh 2 (Gm X 159 [Ga 0,Ga 1])) (Gc (Gh 3 (Gj xX ai [Ga 0])) (Gc (Gh 4 (Gr ag [])) (Gc (A.w3 (Gi (Ga 3) [(.NotEq,(Gn []))]) (zhK X)) (Gc (Gk (Ga 4)) Ge)))))
theorem zov:ta 164 zoU [a0,a1] [ae a0,ae a1,af,af,af,af]:=@kOf _ _ _ _ [(121,12)] 2 ["group","matches","least","rest","found","good"] (λ_ _=>by kernel_rfl) (λP=>j4 λa0 a1=>by kernel_rfl) rfl rfl
def ztu(X:Cx):AS:=(Gc (Gq (tK [Gx (Gm X 21 [Ga 1]),Gx (Gi (Gb (.int 0)) [(.LtE,(Ga 1)),(.LtE,(Gb (.int 30)))])]) (Gc (A.wV 82) Ge) Ge) (Gc (G6 245 3 (Ga 0) (Ga 1)) (Gc (G6 245 4 (Ga 0) (G8 [((Gb (.str 0)),(Gr ag [])),((Gb (.str 1)),(Gr ag []))])) (Gc (G6 245 5 (Ga 0) (Gr ag [])) (Gc (G6 245 6 (Ga 0) (Gr ag [])) Ge)))))
theorem zte:ta 178 ztu [a0,a1] [ae a0,ae a1]:=@kOf _ _ _ _ [(140,22),(141,22),(139,29),(139,41)] 2 ["self","span"] (λ_ _=>by kernel_rfl) (λP=>j4 λa0 a1=>by kernel_rfl) rfl rfl
def zgn(X:Cx):AS:=(Gc (Gk (Gm X 47 [Gg (G2 245 4 (Ga 0)) (Gb (.str 0)),Gg (G2 245 4 (Ga 0)) (Gb (.str 1)),G2 245 3 (Ga 0)])) Ge)
theorem zgg:ta 185 zgn [a0] [ae a0]:=@kOf _ _ _ _ [] 1 ["self"] (λ_ _=>by kernel_rfl) (λP=>za0 λa0=>by kernel_rfl) rfl rfl
def ztz(X:Cx):AS:=(Gc (G6 245 5 (Ga 0) (Gu ag (Gp (G2 245 5 (Ga 0))) (.one 4) 2 (ae (Gi (Gg (Gm X 120 [Ga 4]) (Gb (.int 0))) [(.NotIn,(Ga 1))])) (Ga 4))) (Gc (Gh 2 (Gm X 142 [Gg (G2 245 4 (Ga 0)) (Gb (.str 0)),Gg (G2 245 4 (Ga 0)) (Gb (.str 1)),G2 245 3 (Ga 0),Ga 1])) (Gc (G6 245 5 (Ga 0) (Gf ag .Add (G2 245 5 (Ga 0)) (Gm X 164 [Ga 1,Gu ai (Gp (Ga 2)) (.one 4) 2 (ae (Gi (Ga 4) [(.NotIn,(G2 245 6 (Ga 0)))])) (Ga 4)]))) Ge)))
theorem zti:ta 190 ztz [a0,a1] [ae a0,ae a1,af]:=@kOf _ _ _ _ [(147,22),(149,22)] 2 ["self","group","some"] (λ_ _=>by kernel_rfl) (λP=>j4 λa0 a1=>by kernel_rfl) rfl rfl
def zvl(X:Cx):AS:=(Gc (Gq (tK [Gi (Ga 1) [(.NotIn,(Gn [Gb (.str 0),Gb (.str 1)]))],Gx (Gm X 28 [Ga 2,Ga 3])]) (Gc (A.wV 70) Ge) Ge) (Gc (Gh 4 (Gg (G2 245 4 (Ga 0)) (Ga 1))) (Gc (Gs (Gw zX (Ga 4) [Gn [Ga 2,Ga 3]])) (Gc (Gh 5 (Gv X 245 af 228 (Ga 0) [Ga 1,Gf ai .Sub (Gj jI ai [Ga 4]) (Gb (.int 1))])) (Gc (Gq (Gi (Gj jI ai [Ga 5]) [(.Gt,(Gb (.int 8)))]) (Gc (Gs (Gw yX (Ga 4) [])) (Gc (A.wV 94) Ge)) Ge) (Gc (Gs (Gv X 245 af 190 (Ga 0) [Ga 5])) (Gc (Gk (Gf ai .Sub (Gj jI ai [Ga 4]) (Gb (.int 1)))) Ge)))))))
theorem zvf:ta 197 zvl [a0,a1,a2,a3] [ae a0,ae a1,ae a2,ae a3,af,af]:=@kOf _ _ _ _ [(154,14)] 4 ["self","side","day","cents","row","group"] (λ_ _=>by kernel_rfl) (λP=>zdT λa0 a1 a2 a3=>by kernel_rfl) rfl rfl
def zmf(X:Cx):AS:=(Gc (Gk (A.w9 X 137 ag (G2 245 5 (Ga 0)))) Ge)
theorem zlQ:ta 211 zmf [a0] [ae a0]:=@kOf _ _ _ _ [(167,15)] 1 ["self"] (λ_ _=>by kernel_rfl) (λP=>za0 λa0=>by kernel_rfl) rfl rfl
def zoQ(X:Cx):AS:=(Gc (Gk (Gj xp ag [G2 245 6 (Ga 0)])) Ge)
theorem zot:ta 218 zoQ [a0] [ae a0]:=@kOf _ _ _ _ [(170,15)] 1 ["self"] (λ_ _=>by kernel_rfl) (λP=>za0 λa0=>by kernel_rfl) rfl rfl
def zme(X:Cx):AS:=(Gc (Gh 2 (Gf ai .Add (Ga 2) (Gm X 120 [Ga 3]))) Ge)
def ztw(X:Cx):AS:=(Gc (Gh 2 (Gr ai [])) (Gc (Gy (Gp (G2 245 5 (Ga 0))) (.one 3) (zme X)) (Gc (Gk (Gu ag (Gp (Gj kO ai [Gj jI ai [Gg (G2 245 4 (Ga 0)) (Ga 1)]])) (.one 5) 2 (ae (Gi (Gn [Ga 1,Ga 5]) [(.NotIn,(Ga 2))])) (Ga 5))) Ge)))
theorem ztg:ta 223 ztw [a0,a1] [ae a0,ae a1,af,af]:=@kOf _ _ _ _ [(176,15)] 2 ["self","side","told","match"] (λ_ _=>by kernel_rfl) (λP=>j4 λa0 a1=>by kernel_rfl) rfl rfl
def zjk(X:Cx):AS:=(Gc (Gk (Gg (Gu ai (Gp (Gv X 245 af 185 (Ga 0) [])) (.one 4) 2 (ae (Gi (Gn [Ga 1,Ga 2]) [(.In,(Ga 4))])) (Ga 4)) (Gb (.int 0)))) Ge)
theorem zi8:ta 228 zjk [a0,a1,a2] [ae a0,ae a1,ae a2]:=@kOf _ _ _ _ [] 3 ["self","side","place"] (λ_ _=>by kernel_rfl) (λP=>zbK λa0 a1 a2=>by kernel_rfl) rfl rfl
def zhM(X:Cx):AS:=(Gc (Gq (Gi (Ga 1) [(.NotIn,(G2 245 5 (Ga 0)))]) (Gc (A.wV 106) Ge) Ge) (Gc (Gs (Gw Bg (G2 245 5 (Ga 0)) [Ga 1])) (Gc (Gs (Gw zX (G2 245 6 (Ga 0)) [Ga 1])) Ge)))
theorem zdf:ta 235 zhM [a0,a1] [ae a0,ae a1]:=@kOf _ _ _ _ [] 2 ["self","match"] (λ_ _=>by kernel_rfl) (λP=>j4 λa0 a1=>by kernel_rfl) rfl rfl
def BQ(X:Cx):AS:=(Gc (Gs (Gv X 245 af 190 (Ga 0) [Ga 1])) Ge)
def zq8(X:Cx):AS:=(Gc (Gy (Gp (Gv X 245 af 185 (Ga 0) [])) (.one 1) (BQ X)) Ge)
theorem zqO:ta 242 zq8 [a0] [ae a0,af]:=@kOf _ _ _ _ [] 1 ["self","group"] (λ_ _=>by kernel_rfl) (λP=>za0 λa0=>by kernel_rfl) rfl rfl
def zmc(X:Cx):AS:=(Gc (Gq (Gi (Ga 1) [(.Lt,(Gj jI ai [Ga 0]))]) (Gc (Gk (Gg (Ga 0) (Ga 1))) Ge) Ge) (Gc (Gk (Gb (.int 0))) Ge))
theorem zlO:ta 256 zmc [a0,a1] [ae a0,ae a1]:=@kOf _ _ _ _ [] 2 ["_law_script","_law_k"] (λ_ _=>by kernel_rfl) (λP=>j4 λa0 a1=>by kernel_rfl) rfl rfl
def zhJ(X:Cx):AS:=(Gc (Gh 2 (Gf ai .Add (Gg (Ga 1) (Gb (.str 22))) (Gf ai .Mult (Gf ai .Mod (Gf ai .FloorDiv (Ga 0) (Gb (.int 2))) (Gg (Ga 1) (Gb (.str 20)))) (Gg (Ga 1) (Gb (.str 24)))))) (Gc (Gh 3 (Gf ai .Mult (Gg (Gr ai [Gb (.int 1),Gb (.int 2),Gb (.int 3),Gb (.int 4),Gb (.int 5),Gb (.int 7),G3 (Gb (.int 2)),G3 (Gb (.int 3))]) (Gf ai .Mod (Gf ai .FloorDiv (Ga 0) (Gb (.int 80))) (Gb (.int 8)))) (Gg (Ga 1) (Gb (.str 21))))) (Gc (Gq (Gi (Gf ai .Mod (Gf ai .FloorDiv (Ga 0) (Gb (.int 640))) (Gb (.int 6))) [(.Eq,(Gb (.int 1)))]) (Gc (Gh 3 (Gf ai .Mult (Gf ai .Sub (Gf ai .Pow (Gb (.int 10)) (Gb (.int 9))) (Gj AY ai [Ga 3])) (Gg (Gr ai [Gb (.int 1),G3 (Gb (.int 1))]) (Gj yS ai [Gi (Ga 3) [(.Lt,(Gb (.int 0)))]])))) Ge) Ge) (Gc (Gk (Gn [Gg (Gr ai [Gb (.str 0),Gb (.str 1)]) (Gf ai .Mod (Ga 0) (Gb (.int 2))),Ga 2,Ga 3])) Ge))))
theorem zhA:ta 263 zhJ [a0,a1] [ae a0,ae a1,af,af]:=@kOf _ _ _ _ [] 2 ["_law_cell","_law_own","_law_day","_law_cents"] (λ_ _=>by kernel_rfl) (λP=>j4 λa0 a1=>by kernel_rfl) rfl rfl
def Bt(X:Cx):AS:=(Gc (Gh 4 (Gf ai .Add (Ga 4) (Gb (.int 1)))) (Gc (Gq (kr [Gi (Ga 6) [(.Gt,(Gb (.int 0)))],Gi (Gf ai .Sub (Gg (Ga 3) (Ga 6)) (Gg (Ga 3) (Gf ai .Sub (Ga 6) (Gb (.int 1))))) [(.Gt,(Ga 2))]]) (Gc (Gh 4 (Gb (.int 1))) Ge) Ge) (Gc (Gh 5 (Gj xc ai [Ga 5,Ga 4])) Ge)))
def zq9(X:Cx):AS:=(Gc (Gh 3 (Gj xw ai [Gf ai .Add (Gu ai (Gp (Gf ai .Add (Gg (Ga 0) (Gb (.str 0))) (Gg (Ga 0) (Gb (.str 1))))) (.one 8) 2 af (Gg (Ga 8) (Gb (.int 0)))) (Gr ai [Ga 1])])) (Gc (Gh 4 (Gb (.int 0))) (Gc (Gh 5 (Gb (.int 0))) (Gc (Gy (Gp (Gj kO ai [Gj jI ai [Ga 3]])) (.one 6) (Bt X)) (Gc (Gk (Ga 5)) Ge)))))
theorem zqP:ta 268 zq9 [a0,a1,a2] [ae a0,ae a1,ae a2,af,af,af,af]:=@kOf _ _ _ _ [] 3 ["_law_own","_law_day","_law_span","_law_days","_law_count","_law_crowd_here","_law_k"] (λ_ _=>by kernel_rfl) (λP=>zbK λa0 a1 a2=>by kernel_rfl) rfl rfl
def zmd(X:Cx):AS:=(Gc (Gh 4 (Gi (Gm X 268 [Ga 1,Gg (Ga 2) (Gb (.int 1)),Ga 3]) [(.Gt,(Gb (.int 8)))])) (Gc (A.vE (Gc (Gh 5 (Gv X 245 af 197 (Ga 0) [Gg (Ga 2) (Gb (.int 0)),Gg (Ga 2) (Gb (.int 1)),Gg (Ga 2) (Gb (.int 2))])) Ge) [94] (ae 6) (Gc (Gk (kr [Ga 4,Gx (G5 [(57,ai),(70,ag),(82,ai),(94,ai),(106,ai)] (Ga 6)),Gx (G5 [(57,ai),(70,ai),(82,ai),(94,ai),(106,ag)] (Ga 6))])) Ge)) (Gc (Gq (tK [Ga 4,Gi (Ga 5) [(.NotEq,(Gj jI ai [Gg (Ga 1) (Gg (Ga 2) (Gb (.int 0)))]))]]) (Gc (Gk (Gb (.bool ai))) Ge) Ge) (Gc (Gs (Gw zX (Gg (Ga 1) (Gg (Ga 2) (Gb (.int 0)))) [Gn [Gg (Ga 2) (Gb (.int 1)),Gg (Ga 2) (Gb (.int 2))]])) (Gc (Gk (Gb (.bool ag))) Ge)))))
theorem zlP:ta 275 zmd [a0,a1,a2,a3] [ae a0,ae a1,ae a2,ae a3,af,af,af]:=@kOf _ _ _ _ [] 4 ["_law_ledger","_law_own","_law_entry_here","_law_span","_law_many","_law_place","e"] (λ_ _=>by kernel_rfl) (λP=>zdT λa0 a1 a2 a3=>by kernel_rfl) rfl rfl
def zjq(X:Cx):AS:=(Gc (A.vE (Gc (Gs (Gv X 245 af 235 (Ga 0) [Ga 1])) Ge) [57,70,82,94,106] (ae 5) (Gc (Gq (tK [G5 [(57,ai),(70,ag),(82,ai),(94,ai),(106,ai)] (Ga 5),G5 [(57,ai),(70,ai),(82,ag),(94,ai),(106,ai)] (Ga 5),G5 [(57,ai),(70,ai),(82,ai),(94,ag),(106,ai)] (Ga 5)]) (Gc (Gk (Gb (.bool ai))) Ge) Ge) (Gc (Gq (tK [Gx (G5 [(57,ai),(70,ai),(82,ai),(94,ai),(106,ag)] (Ga 5)),Gx (G5 [(57,ag),(70,ag),(82,ag),(94,ag),(106,ag)] (Ga 5))]) (Gc (Gk (Gb (.bool ai))) Ge) Ge) (Gc (Gq (kr [Gi (Gf ai .Mod (Ga 4) (Gb (.int 2))) [(.Eq,(Gb (.int 1)))],Gi (Gv X 245 (ae 18) 218 (Ga 0) []) [(.NotEq,(Ga 3))]]) (Gc (Gk (Gb (.bool ai))) Ge) Ge) (Gc (Gk (kr [Gi (Gv X 245 (ae 17) 211 (Ga 0) []) [(.Eq,(Ga 2))],Gi (Gv X 245 (ae 18) 218 (Ga 0) []) [(.Eq,(Ga 3))]])) Ge))))) (Gc (Gk (Gb (.bool ai))) Ge))
theorem zje:ta 282 zjq [a0,a1,a2,a3,a4] [ae a0,ae a1,ae a2,ae a3,ae a4,af]:=@kOf _ _ _ _ [] 5 ["_law_ledger","_law_match","_law_ticked","_law_barred","_law_way","e"] (λ_ _=>by kernel_rfl) (λP=>zsM λa0 a1 a2 a3 a4=>by kernel_rfl) rfl rfl
def zts(X:Cx):AS:=(Gc (Gh 4 (Gg (Ga 1) (Gb (.str 5)))) (Gc (Gz (Gf ai .Add (Gg (Ga 1) (Gb (.str 23))) (Gu ai (Gp (Ga 4)) (.one 9) 2 (ae (Gi (Ga 9) [(.NotIn,(Gg (Ga 1) (Gb (.str 23))))])) (Ga 9))) (Ga 1) (Gb (.str 23))) (Gc (Gq (Gi (Gf ai .Mod (Ga 2) (Gb (.int 8))) [(.Eq,(Gb (.int 6)))]) (Gc (Gh 6 (Gf ai .Add (Gr ai [Gn [Gn [Gf ai .Mod (Gf ai .FloorDiv (Ga 2) (Gb (.int 64))) (Gb (.int 4))],Gn [Gf ai .Mod (Gf ai .FloorDiv (Ga 2) (Gb (.int 256))) (Gb (.int 4))]]]) (Gg (Ga 1) (Gb (.str 23))))) (Gc (Gh 6 (Gg (Ga 6) (Gf ai .Mult (Gf ai .Mod (Gf ai .FloorDiv (Ga 2) (Gb (.int 1024))) (Gb (.int 2))) (Gf ai .Mod (Gf ai .FloorDiv (Ga 2) (Gb (.int 2048))) (Gj jI ai [Ga 6]))))) (Gc (Gq (kr [Gi (Ga 6) [(.NotIn,(Ga 4))],Gx (Gm X 282 [Ga 0,Ga 6,Ga 4,Gg (Ga 1) (Gb (.str 18)),Gf ai .FloorDiv (Ga 2) (Gb (.int 11))])]) (Gc (Gk (Gb (.bool ai))) Ge) Ge) Ge))) Ge) (Gc (Gq (kr [Gi (Gf ai .Mod (Ga 2) (Gb (.int 8))) [(.Eq,(Gb (.int 6)))],Gi (Ga 4) [(.NotEq,(Gr ai []))]]) (Gc (Gh 5 (Gg (Ga 4) (Gf ai .Mod (Gf ai .FloorDiv (Ga 2) (Gb (.int 8))) (Gj jI ai [Ga 4])))) (Gc (Gh 7 (Gu ai (Gp (Ga 4)) (.one 9) 2 (ae (Gi (Ga 9) [(.NotEq,(Ga 5))])) (Ga 9))) (Gc (Gs (Gw zX (Gg (Ga 1) (Gb (.str 18))) [Ga 5])) (Gc (Gk (kr [Gi (Gv X 245 af 235 (Ga 0) [Ga 5]) [(.Is,(Gb .none))],Gm X 282 [Ga 0,Ga 5,Ga 7,Gg (Ga 1) (Gb (.str 18)),Gf ai .FloorDiv (Ga 2) (Gb (.int 13))]])) Ge)))) Ge) (Gc (Gq (Gi (Gf ai .Mod (Ga 2) (Gb (.int 8))) [(.Eq,(Gb (.int 6)))]) (Gc (Gk (Gm X 282 [Ga 0,Gn [Gn [Gf ai .Mod (Gf ai .FloorDiv (Ga 2) (Gb (.int 8))) (Gb (.int 3))],Gn [Gf ai .Mod (Gf ai .FloorDiv (Ga 2) (Gb (.int 24))) (Gb (.int 3))]],Ga 4,Gg (Ga 1) (Gb (.str 18)),Gf ai .FloorDiv (Ga 2) (Gb (.int 11))])) Ge) Ge) (Gc (Gq (Gi (Gf ai .Mod (Ga 2) (Gb (.int 8))) [(.Eq,(Gb (.int 7)))]) (Gc (Gk (Gi (Gv X 245 af 242 (Ga 0) []) [(.Is,(Gb .none))])) Ge) Ge) (Gc (Gk (Gm X 275 [Ga 0,Ga 1,Gm X 263 [Gf ai .FloorDiv (Ga 2) (Gb (.int 8)),Ga 1],Ga 3])) Ge)))))))
theorem ztc:ta 287 zts [a0,a1,a2,a3] [ae a0,ae a1,ae a2,ae a3,af,af,af,af]:=@kOf _ _ _ _ [] 4 ["_law_ledger","_law_own","_law_cell","_law_span","_law_ticked","_law_match","_law_odd","_law_others"] (λ_ _=>by kernel_rfl) (λP=>zdT λa0 a1 a2 a3=>by kernel_rfl) rfl rfl
def zhL(X:Cx):AS:=(Gc (Gq (tK [Gx (G4 .int (Ga 3)),G4 .bool (Ga 3),Gx (Gi (Ga 2) [(.Lt,(Ga 3)),(.Lt,(Ga 1))])]) (Gc (Gk (Gb (.bool ai))) Ge) Ge) (Gc (Gh 2 (Ga 3)) Ge))
def zoV(X:Cx):AS:=(Gc (Gq (tK [Gx (G4 .tuple (Ga 0)),Gx (Gi (Gb (.int 1)) [(.LtE,(Gj jI ai [Ga 0])),(.LtE,(Gb (.int 3)))])]) (Gc (Gk (Gb (.bool ai))) Ge) Ge) (Gc (Gh 2 (G3 (Gb (.int 1)))) (Gc (Gy (Gp (Ga 0)) (.one 3) (zhL X)) (Gc (Gk (Gb (.bool ag))) Ge))))
theorem zow:ta 294 zoV [a0,a1] [ae a0,ae a1,af,af]:=@kOf _ _ _ _ [] 2 ["_law_places","_law_count","_law_last","_law_place"] (λ_ _=>by kernel_rfl) (λP=>j4 λa0 a1=>by kernel_rfl) rfl rfl
def zjo(X:Cx):AS:=(Gc (Gq (tK [Gx (G4 .tuple (Ga 0)),Gi (Gj jI ai [Ga 0]) [(.NotEq,(Gb (.int 2)))]]) (Gc (Gk (Gb (.bool ai))) Ge) Ge) (Gc (Gq (tK [Gx (Gm X 294 [Gg (Ga 0) (Gb (.int 0)),Gj jI ai [Gg (Ga 1) (Gb (.str 0))]]),Gx (Gm X 294 [Gg (Ga 0) (Gb (.int 1)),Gj jI ai [Gg (Ga 1) (Gb (.str 1))]])]) (Gc (Gk (Gb (.bool ai))) Ge) Ge) (Gc (Gh 3 (Gu ai (Gp (Gg (Ga 0) (Gb (.int 0)))) (.one 8) 2 af (Gg (Gg (Ga 1) (Gb (.str 0))) (Ga 8)))) (Gc (Gh 4 (Gu ai (Gp (Gg (Ga 0) (Gb (.int 1)))) (.one 8) 2 af (Gg (Gg (Ga 1) (Gb (.str 1))) (Ga 8)))) (Gc (Gh 5 (Gu ai (Gp (Gf ai .Add (Ga 3) (Ga 4))) (.one 8) 2 af (Gg (Ga 8) (Gb (.int 0))))) (Gc (Gh 6 (Gi (Gj xr ai [Gu ai (Gp (Ga 3)) (.one 8) 2 af (Gg (Ga 8) (Gb (.int 1)))]) [(.Eq,(Gj xr ai [Gu ai (Gp (Ga 4)) (.one 8) 2 af (Gg (Ga 8) (Gb (.int 1)))]))])) (Gc (Gk (kr [Ga 6,Gi (Gj wv ai [Gj jI ai [Ga 3],Gj jI ai [Ga 4]]) [(.Eq,(Gb (.int 1)))],Gi (Gf ai .Sub (Gj xc ai [Ga 5]) (Gj wv ai [Ga 5])) [(.LtE,(Ga 2))]])) Ge)))))))
theorem zjc:ta 299 zjo [a0,a1,a2] [ae a0,ae a1,ae a2,af,af,af,af]:=@kOf _ _ _ _ [] 3 ["_law_match","_law_own","_law_span","_law_ones","_law_others","_law_days","_law_even"] (λ_ _=>by kernel_rfl) (λP=>zbK λa0 a1 a2=>by kernel_rfl) rfl rfl
def Bn(X:Cx):AS:=(Gc (Gh 5 (Gw yX (Ga 2) [Gf ai .Mod (Ga 1) (Gj jI ai [Ga 2])])) (Gc (Gh 1 (Gf ai .FloorDiv (Ga 1) (Gb (.int 4)))) (Gc (Gq (Gi (Ga 5) [(.Eq,(Gb (.str 17)))]) (Gc (Gz (Gv X 245 (ae 17) 211 (Ga 0) []) (Ga 3) (Ga 5)) Ge) (Gc (Gq (Gi (Ga 5) [(.Eq,(Gb (.str 18)))]) (Gc (Gz (Gv X 245 (ae 18) 218 (Ga 0) []) (Ga 3) (Ga 5)) Ge) (Gc (Gz (Gv X 245 af 223 (Ga 0) [Ga 5]) (Ga 3) (Ga 5)) Ge)) Ge)) Ge)))
def ztx(X:Cx):AS:=(Gc (Gh 2 (Gr ag [Gb (.str 17),Gb (.str 18),Gb (.str 0),Gb (.str 1)])) (Gc (Gh 3 (G8 [])) (Gc (Gy (Gp (Gj kO ai [Gb (.int 4)])) (.one 4) (Bn X)) (Gc (Gk (Ga 3)) Ge))))
theorem zth:ta 306 ztx [a0,a1] [ae a0,ae a1,af,af,af,af]:=@kOf _ _ _ _ [(271,17),(272,17)] 2 ["_law_ledger","_law_way","_law_words","_law_found","_law_k","_law_word"] (λ_ _=>by kernel_rfl) (λP=>j4 λa0 a1=>by kernel_rfl) rfl rfl
def BH(X:Cx):AS:=(Gc (Gq (tK [Gx (Gm X 299 [Ga 6,Ga 1,Ga 2]),Gi (Ga 6) [(.In,(Gg (Ga 1) (Gb (.str 18))))]]) (Gc (Gk (Gb (.bool ai))) Ge) Ge) (Gc (Gh 7 (Gn [Gf ai .Add (Gj jI ai [Gg (Ga 6) (Gb (.int 0))]) (Gj jI ai [Gg (Ga 6) (Gb (.int 1))]),Ga 6])) (Gc (Gq (Gx (Gi (Ga 5) [(.Lt,(Ga 7))])) (Gc (Gk (Gb (.bool ai))) Ge) Ge) (Gc (Gh 5 (Ga 7)) (Gc (Gz (Gf ai .Add (Gg (Ga 4) (Gb (.str 0))) (Gj xp ai [Gg (Ga 6) (Gb (.int 0))])) (Ga 4) (Gb (.str 0))) (Gc (Gz (Gf ai .Add (Gg (Ga 4) (Gb (.str 1))) (Gj xp ai [Gg (Ga 6) (Gb (.int 1))])) (Ga 4) (Gb (.str 1))) Ge))))))
def BZ(X:Cx):AS:=(Gc (Gh 9 (Gg (Ga 0) (Ga 8))) (Gc (Gq (tK [Gx (G4 .list (Ga 9)),Gi (Gj AC ai [Gg (Ga 4) (Ga 8)]) [(.NotEq,(Gj jI ai [Gg (Ga 4) (Ga 8)]))]]) (Gc (Gk (Gb (.bool ai))) Ge) Ge) (Gc (Gq (Gi (Ga 9) [(.NotEq,(Gu ai (Gp (Gj kO ai [Gj jI ai [Gg (Ga 1) (Ga 8)]])) (.one 11) 2 (ae (Gi (Ga 11) [(.NotIn,(Gg (Ga 4) (Ga 8)))])) (Ga 11)))]) (Gc (Gk (Gb (.bool ai))) Ge) Ge) Ge)))
def zra(X:Cx):AS:=(Gc (Gh 3 (Gg (Ga 0) (Gb (.str 17)))) (Gc (Gq (tK [Gx (G4 .list (Ga 3)),Gx (G4 .list (Gg (Ga 0) (Gb (.str 18)))),Gi (Gg (Ga 0) (Gb (.str 18))) [(.NotEq,(Gg (Ga 1) (Gb (.str 18))))]]) (Gc (Gk (Gb (.bool ai))) Ge) Ge) (Gc (Gh 4 (G8 [((Gb (.str 0)),(Gr ai [])),((Gb (.str 1)),(Gr ai []))])) (Gc (Gh 5 (Gn [Gb (.int 0),Gn []])) (Gc (Gy (Gp (Ga 3)) (.one 6) (BH X)) (Gc (Gy (Gp (Gn [Gb (.str 0),Gb (.str 1)])) (.one 8) (BZ X)) (Gc (Gk (Gb (.bool ag))) Ge)))))))
theorem zqQ:ta 311 zra [a0,a1,a2] [ae a0,ae a1,ae a2,af,af,af,af,af,af,af]:=@kOf _ _ _ _ [] 3 ["_law_look_here","_law_own","_law_span","_law_ticked","_law_taken","_law_ahead","_law_match","_law_now","_law_side","_law_free"] (λ_ _=>by kernel_rfl) (λP=>zbK λa0 a1 a2=>by kernel_rfl) rfl rfl
def BW(X:Cx):AS:=(Gc (Gs (Gv X 245 af 197 (Ga 0) [Ga 4,Gf ai .Add (Ga 3) (Gf ai .Mult (Gb (.int 40)) (Ga 5)),Gf ai .Add (Gb (.int 1)) (Ga 5)])) (Gc (Gs (Gw zX (Gg (Ga 1) (Ga 4)) [Gn [Gf ai .Add (Ga 3) (Gf ai .Mult (Gb (.int 40)) (Ga 5)),Gf ai .Add (Gb (.int 1)) (Ga 5)]])) Ge))
def ztv(X:Cx):AS:=(Gc (Gh 3 (Gg (Gr ai [Gb (.int 5000),Gb (.int 0)]) (Gj yS ai [Gi (Gg (Ga 1) (Gb (.str 22))) [(.Gt,(Gb (.int 2000)))]]))) (Gc (Gh 4 (Gg (Gr ai [Gb (.str 0),Gb (.str 1)]) (Gf ai .Mod (Gf ai .FloorDiv (Ga 2) (Gb (.int 4))) (Gb (.int 2))))) (Gc (Gy (Gp (Gj kO ai [Gg (Gr ai [Gb (.int 0),Gb (.int 0),Gb (.int 0),Gf ai .Add (Gb (.int 9)) (Gf ai .Mod (Gf ai .FloorDiv (Ga 2) (Gb (.int 8))) (Gb (.int 5)))]) (Gf ai .Mod (Ga 2) (Gb (.int 4)))])) (.one 5) (BW X)) Ge)))
theorem ztf:ta 318 ztv [a0,a1,a2] [ae a0,ae a1,ae a2,af,af,af]:=@kOf _ _ _ _ [] 3 ["_law_ledger","_law_own","_law_cell","_law_first","_law_side","_law_k"] (λ_ _=>by kernel_rfl) (λP=>zbK λa0 a1 a2=>by kernel_rfl) rfl rfl
def yq(X:Cx):AS:=(Gc (Gq (Gx (Gm X 287 [Ga 3,Ga 2,Ga 6,Ga 1])) (Gc (Gk (Gb (.bool ai))) Ge) Ge) (Gc (Gh 7 (Gm X 306 [Ga 3,Gf ai .Add (Gf ai .FloorDiv (Ga 6) (Gb (.int 5))) (Gf ai .Mult (Gb (.int 7)) (Ga 5))])) (Gc (Gq (Gx (Gm X 311 [Ga 7,Ga 2,Ga 1])) (Gc (Gk (Gb (.bool ai))) Ge) Ge) (Gc (Gz (Gj xp ai [Gg (Ga 7) (Gb (.str 17))]) (Ga 2) (Gb (.str 5))) (Gc (Gs (Gw zX (Ga 4) [Gn [Ga 7,Gj Ai ai [A.cpD 7]]])) Ge)))))
def zvk(X:Cx):AS:=(Gc (Gh 1 (Gf ai .Mod (Gm X 256 [Ga 0,Gb (.int 0)]) (Gb (.int 5)))) (Gc (Gq (Gi (Gf ai .Mod (Gf ai .FloorDiv (Gm X 256 [Ga 0,Gb (.int 0)]) (Gb (.int 5))) (Gb (.int 3))) [(.Eq,(Gb (.int 1)))]) (Gc (Gh 1 (Gf ai .Add (Gb (.int 5)) (Gf ai .Mod (Gf ai .FloorDiv (Gm X 256 [Ga 0,Gb (.int 0)]) (Gb (.int 15))) (Gb (.int 26))))) Ge) Ge) (Gc (Gh 2 (G8 [((Gb (.str 0)),(Gr ag [])),((Gb (.str 1)),(Gr ag [])),((Gb (.str 18)),(Gr ag [])),((Gb (.str 20)),(Gg (Gr ai [Gb (.int 8),Gb (.int 40)]) (Gf ai .Mod (Gm X 256 [Ga 0,Gb (.int 1)]) (Gb (.int 2))))),((Gb (.str 21)),(Gb (.int 1)))])) (Gc (Gz (Gf ai .Add (Gb (.int 1)) (Gf ai .Mult (Gf ai .Mod (Gf ai .FloorDiv (Gm X 256 [Ga 0,Gb (.int 1)]) (Gb (.int 2))) (Gb (.int 2))) (Gf ai .Mod (Gf ai .FloorDiv (Gm X 256 [Ga 0,Gb (.int 1)]) (Gb (.int 4))) (Gf ai .Pow (Gb (.int 10)) (Gb (.int 8)))))) (Ga 2) (Gb (.str 21))) (Gc (Gz (Gf ai .Mod (Gf ai .FloorDiv (Gm X 256 [Ga 0,Gb (.int 0)]) (Gb (.int 390))) (Gb (.int 9883))) (Ga 2) (Gb (.str 22))) (Gc (Gz (Gr ai []) (Ga 2) (Gb (.str 23))) (Gc (Gz (Gr ai []) (Ga 2) (Gb (.str 5))) (Gc (Gz (Gf ai .Add (Gb (.int 1)) (Gf ai .Mod (Gm X 256 [Ga 0,Gb (.int 14)]) (Gb (.int 3)))) (Ga 2) (Gb (.str 24))) (Gc (Gh 3 (A.new X 245 178 [Ga 1])) (Gc (Gs (Gm X 318 [Ga 3,Ga 2,Gm X 256 [Ga 0,Gb (.int 13)]])) (Gc (Gh 4 (Gr ag [])) (Gc (Gy (A.itE (G7 ai (Ga 0) (ae (Gb (.int 2))) (ae (Gb (.int 13))))) (.many [5,6]) (yq X)) (Gc (Gs (Gw vL (Gv X 245 (ae 17) 211 (Ga 3) []) [])) (Gc (Gs (Gw zX (Gv X 245 (ae 18) 218 (Ga 3) []) [Gn [Gn [Gb (.int 0)],Gn [Gb (.int 0)]]])) (Gc (Gs (Gw zX (Gv X 245 af 223 (Ga 3) [Gb (.str 0)]) [G3 (Gb (.int 1))])) (Gc (Gs (Gw vL (Gv X 245 af 223 (Ga 3) [Gb (.str 1)]) [])) (Gc (Gh 8 (Gm X 306 [Ga 3,Gm X 256 [Ga 0,Gb (.int 0)]])) (Gc (Gk (kr [Gm X 311 [Ga 8,Ga 2,Ga 1],Gj Ab ai [Gu ai (Gp (Ga 4)) (.many [10,11]) 3 af (Gi (Ga 10) [(.Eq,(Ga 11))])]])) Ge))))))))))))))))))
theorem zve:ta 323 zvk [a0] [ae a0,af,af,af,af,af,af,af,af]:=@kOf _ _ _ _ [(323,16),(315,24),(315,36),(315,50)] 1 ["_law_script","_law_span","_law_own","_law_ledger","_law_held","_law_k","_law_cell","_law_look_here","_law_last"] (λ_ _=>by kernel_rfl) (λP=>za0 λa0=>by kernel_rfl) rfl rfl
end
section
variable{P:Hm}{X:Cx}{n:Nat}{Q:zt}{Z:XP}{U:su}
theorem zae{V:Type}{f:V->AV}{xs:List V}{k:Nat}{x:V}(h:xs[k]? = ae x):jM (xs.map f) (k:Int)=ae (f x):=by rw[atIdx_nat,bQ,h];rfl
theorem jp(G:Gd X (hK P))(hd:n<590){ns:List Int}(q:Q (.int (ns.getD k 0)) U):sy X 256 ⟨n,ai⟩ [.lst (ns.map .int),.int k] Q Z U:=by
 refine zlO G (aw hd (by decide)) λL=>zaS (λh=>?_) λh=>?_
 .have h:=H4 h;rw[am] at h;have hk:k<ns.length:=zAH h;have e:ns[k]? = ae (ns.getD k 0):=by rw[aF,aC hk];rfl
  exact ze (zae e) (sD.same q)
 .have h:=of_decide_eq_false h;rw[am] at h;have hk:ns.length<=k:=zBI h;rw[aF,cA hk] at q;exact sD.same q
abbrev Mt:=List Int×List Int
noncomputable def zx(m:Mt):AV:=.tup [.tup (m.1.map .int),.tup (m.2.map .int)]
noncomputable def zr(m:Mt):List zn:=m.1.map (λk=>(ai,k))++m.2.map λk=>(ag,k)
theorem ziE(G:Gd X (hK P))(hd:n<590)(q:Q (.tup [.int ((m.1.length:Int)+m.2.length),zx m]) U):sy X 137 ⟨n,hb⟩ [zx m] Q Z U:=by
 refine zlN G (aw hd (by decide)) λL=>?_
 conv=>whnf
 rw[am,am];exact sD.same q
theorem zaa(G:Gd X (hK P))(hd:n<590)(h1:m.1.length<=1000)(h2:m.2.length<=1000)(q:Q (.lst ((zr m).map z7)) U):sy X 120 ⟨n,ai⟩ [zx m] Q Z U:=by
 refine zjd G (aw hd (by decide)) λL=>z8 (λk=>z7 (ai,k)) (λ_=>rfl) (λ_ _=>rfl) (λx _ R q=>q) trivial (zgS h1) (z8 (λk=>z7 (ag,k)) (λ_=>rfl) (λ_ _=>rfl) (λx _ R q=>q) trivial (zgS h2) (zN (by rw[am,am];exact zrX h1 h2) (sD.same ?_)));unfold zr at q;rw[aB,aL,aL] at q;exact q
theorem za9(G:Gd X (hK P))(hd:n<590)(q:Q (.bool ag) U):sy X 21 ⟨n,ai⟩ [.int i] Q Z U:=
 zjb G (aw hd (by decide)) λL=>sD.same q
noncomputable def k7(d c:Int):Bool:=decide (0<=d)&&decide (d<=9999)&&decide (0-1000000000<=c)&&decide (c<=1000000000)&&!decide (c=0)
theorem zhx(G:Gd X (hK P))(hd:n<580)(q:Q (.bool (k7 i c)) U):sy X 28 ⟨n,ai⟩ [.int i,.int c] Q Z U:=by
 refine zja G (aw hd (by decide)) λL=>za9 (G.push L) (ziy hd) (za9 (G.push L) (ziy hd) ?_);have fin:∀b,k7 i c=b->sD Q (.bool b) U:=λb e=>sD.same (e▸q);unfold k7 at fin
 repeat' ((conv=>whnf);(refine zaS (λ_=>?_) λ_=>?_))
 all_goals (refine fin _ ?_;simp only[*,iG,fb,r8,pN,iF,Bool.not_false])
theorem zda(G:Gd X (hK P))(hd:n<590){pb pk:aH}{es fs:List AV}{m:zn}{k:Nat}{e:AV}(hb:U pb=ae (.list es))(hk:U pk=ae (.list fs))(he:(if m.1 then fs else es)[k]? = ae e)(hm:m.2=k)(q:Q e U) :
  sy X 35 ⟨n,ai⟩ [.ref pb,.ref pk,z7 m] Q Z U:=by
 obtain⟨b,i⟩:=m;cases hm;refine zi7 G (aw hd (by decide)) λL=>?_;cases b with
 | false=>
  refine jE hb (ze (atIdx_nat.trans he) (sD.same q))
 | true=>
  refine jE hk (ze (atIdx_nat.trans he) (sD.same q))
theorem zgr(m):sN 1 (z7 m):=.tup λx hx=>by
 rcases List.mem_cons.mp hx with rfl|hx
 .exact .str (by cases m.1<;>decide)
 .rcases List.mem_cons.mp hx with rfl|hx
  .exact .int _
  .cases hx
theorem zo3(h:z7 m=z7 m'):m=m':=by
 obtain⟨b,i⟩:=m;obtain⟨b',i'⟩:=m';cases b<;>cases b'<;>cases h<;>rfl
theorem zoZ{ms:List zn}:z7 m∈ms.map z7↔m∈ms:=⟨λh=>by refine za (List.mem_map.mp h) λx h1 h2=>?_;rw[<-zo3 h2];exact h1,λh=>b8 h⟩
theorem inM{ms:List zn}{R:Bool->su->Prop}(hc:c = .lst (ms.map z7)\/c = .tup (ms.map z7))(q:R (decide (m∈ms)) U):uS (z7 m) c R U:=by
 refine zck hc (zgr m) (λy hy=>?_) (by decide) (λh=>?_) λh=>?_
 .refine za (List.mem_map.mp hy) λx _ Dk=>?_;subst Dk;exact zgr x
 .rw[zoZ] at h;rw[H3 h] at q;exact q
 .rw[zoZ] at h;rw[H0 h] at q;exact q
noncomputable def BJ(r ms:List zn):List zn:=r.filter λy=>!decide (y∈ms)
theorem zka(G:Gd X (hK P))(hd:n<590){r ms:List zn}(hl:r.length<=1000)(q:Q (if ∀y∈ms,y∈r then zE (BJ r ms) else .none) U) :
  sy X 147 ⟨n,ai⟩ [zE r,.lst (ms.map z7)] Q Z U:=by
 refine zlS G (aw hd (by decide)) λL=>zlD (β:=Unit) (g:=z7) (λxs _ l U'=>U'=U/\(∃x,l=[ae (zE r),ae (.lst (ms.map z7)),x])/\(∀y∈ms,y∈xs\/y∈r)/\∀y∈xs,y∈ms) (λb _=>b) ?_ (b:=()) ?_ (zA rfl ⟨_,rfl⟩ (λy hy=>.inl hy) (λy hy=>hy))
 .rintro x xs _ l U' K ⟨rfl,⟨v,rfl⟩,h1,h2⟩ hK;refine zf _ rfl (inM (.inr rfl) ?_)
  by_cases hx:x∈r
  .rw[H3 hx];refine⟨trivial,hK _ _ (zA rfl ⟨_,rfl⟩ (λy hy=>?_) (λy hy=>h2 y (al _ hy)))⟩
   rcases h1 y hy with h|h
   .rcases List.mem_cons.mp h with rfl|h
    .exact .inr hx
    .exact .inl h
   .exact .inr h
  .rw[H0 hx];rw[if_neg λh=>hx (h x (h2 x aj))] at q;exact sD.same q
 .rintro l U' ⟨rfl,⟨v,rfl⟩,h1,_⟩;rw[if_pos λy hy=>(h1 y hy).resolve_left (by intro h;cases h)] at q;refine jm (g:=z7) (λy=>!decide (y∈ms)) z7 (λ_=>rfl) (λ_ _=>rfl) (λx _ R q=>?_) (λx _ _ R q=>q) trivial (zgS hl) ?_
  .exact inM (.inl rfl) q
  .exact sD.same q
end
section
variable{P:Hm}{X:Cx}{n:Nat}{Q:zt}{Z:XP}{U:su}
theorem zaO:(U.set p o).set p o'=U.set p o':=by
 funext b
 by_cases h:b=p
 .subst h;rw[su.wA,su.wA]
 .rw[su.wB _ _ h,su.wB _ _ h,su.wB _ _ h]
theorem zF(h:U p=af):∀a o',U a=ae o'->U.set p o a=ae o':=λa o' e=>by
 rw[su.wB _ _ (by rintro rfl;rw[h] at e;exact nos e)];exact e
theorem sD.vF(h:U p=af)(q:Q (.lst xs) U):sD Q (.ref p) (U.set p (.list xs)):=.one (zF h) (su.wA ..) h q
noncomputable def qF(r:List zn)(m:Mt):Option (List zn):=match r with|[]=>af|x::t=>if x∈zr m/\∀y∈zr m,y∈x::t then ae ((x::t).filter λy=>!decide (y∈zr m)) else af
noncomputable def tk(ms:List Mt)(r:List zn):List (Mt×List zn):=ms.filterMap λm=>(qF r m).map λb=>(m,b)
noncomputable def xY(x:Mt×List zn):AV:=.tup [zx x.1,zE x.2]
def xx(m:Mt):Prop:=m.1.length<=4/\m.2.length<=4
noncomputable def vZ(r:List zn)(b:List (Mt×List zn))(m:Mt):List (Mt×List zn):=b++((qF r m).map λy=>(m,y)).toList
theorem zrI(r)(ms)(b):ms.foldl (vZ r) b=b++tk ms r:=by
 induction ms generalizing b with
 | nil=>exact(bz b).symm
 | cons m ms ih=>
  rw[bV,ih];unfold vZ tk;rw[df];cases qF r m with
  | none=>simp
  | some y=>simp
theorem zaP(G:Gd X (hK P))(hd:n<570)(hl:(x::t).length<=1000)(hm:∀m∈ms,xx m)(DU:ms.length<=100000)(q:Q (.lst ((tk ms (x::t)).map xY)) U) :
  sy X 154 ⟨n,ai⟩ [zE (x::t),.lst (ms.map zx)] Q Z U:=by
 refine zhB G (aw hd (by decide)) λL=>?_;intro p hp;refine qE (g:=zx) (λ_ (c:Option AV×Option AV×Option AV)=>[ae (zE (x::t)),ae (.lst (ms.map zx)),ae (.ref p),c.1,c.2.1,c.2.2]) (λb=>U.set p (.list (b.map xY))) (λxs b=>b.length+xs.length<=100000/\∀y∈xs,xx y) (vZ (x::t)) (λm xs b c K S_ hJ=>?_) (b:=[]) (c:=(_,_,_)) (λc=>?_) ⟨by simpa using DU,hm⟩
 .obtain⟨h1,h2⟩:=hJ;have CF:(vZ (x::t) b m).length+xs.length<=100000:=by
   unfold vZ;cases qF (x::t) m<;>simp<;>(first|exact zb 0x30d41208280186a09243405006 rfl h1|exact zb 0xc350482905280186a09243405006 rfl h1)
  refine⟨⟨CF,λy hy=>h2 y (al _ hy)⟩,λhK=>zf _ rfl ?_⟩;have PG:=h2 m aj;refine zaa (G.push L) (zw9 hd) (by have:=PG.1;exact zd 0x1f4480060006 rfl this) (by have:=PG.2;exact zd 0x1f4480060006 rfl this) (inM (.inl rfl) ?_);have DV:qF (x::t) m=if x∈zr m/\∀y∈zr m,y∈x::t then ae (BJ (x::t) (zr m)) else af:=rfl
  unfold vZ at hK;have no:qF (x::t) m=af->∀c':Option AV×Option AV×Option AV,K [ae (zE (x::t)),ae (.lst (ms.map zx)),ae (.ref p),c'.1,c'.2.1,c'.2.2] (U.set p (.list (b.map xY))):=λe c'=>by
   have:=hK c';rwa [e,Option.map_none,Option.toList_none,bz] at this
  refine zaS (λh=>?_) λh=>?_
  .have h:=H4 h;refine zka (G.push L) (zw9 hd) hl ?_
   by_cases hy:∀y∈zr m,y∈x::t
   .rw[if_pos hy];rw[if_pos ⟨h,hy⟩] at DV;refine zo (su.wA ..) (zo (su.wA ..) (zN (by rw[am];exact zb 0x1e8481248280186a09243405006 rfl h1) ⟨trivial,?_⟩));rw[zaO];rw[DV,Option.map_some,Option.toList_some,aB] at hK;exact hK (_,_,_)
   .rw[if_neg hy];rw[if_neg λh=>hy h.2] at DV;exact⟨trivial,no DV (_,_,_)⟩
  .rw[if_neg λq=>of_decide_eq_false h q.1] at DV;exact⟨trivial,no DV (_,_,_)⟩
 .rw[zrI,dZ];exact sD.vF hp q
end
section
variable{P:Hm}{X:Cx}{n:Nat}{Q:zt}{Z:XP}{U:su}
theorem zgy{V:Type}{f:V->AV}{u:AV->V}(hu:∀x,u (f x)=x){ys:List AV}{xs:List V}(h:ys.Perm (xs.map f)):(ys.map u).Perm xs/\ys=(ys.map u).map f:=by
 have h1:(ys.map u).Perm ((xs.map f).map u):=h.map u;rw[aL] at h1;have h2:xs.map (u∘f)=xs:=by
  have:u∘f=id:=funext hu;rw[this,eV]
 rw[h2] at h1;refine⟨h1,?_⟩;rw[aL];refine(eV ys).symm.trans (cw λy hy=>?_);refine za (List.mem_map.mp (h.mem_iff.mp hy)) λx _ CU=>?_;subst CU;show f x=f (u (f x));rw[hu]
noncomputable def srt{V:Type}(Y:V->Nat)(xs:List V):List V:=xs.mergeSort λa b=>decide (Y a<=Y b)
theorem zR{V:Type}(Y:V->Nat)(xs:List V):(srt Y xs).Perm xs:=List.mergeSort_perm xs _
theorem zgM{V:Type}(Y:V->Nat)(xs:List V):(srt Y xs).Pairwise λa b=>Y a<=Y b:=by
 have h:=List.pairwise_mergeSort (le:=λa b=>decide (Y a<=Y b)) (λa b c h1 h2=>H3 (ap (H4 h1) (H4 h2))) (λa b=>by
  rcases lA (Y a) (Y b) with h|h
  .rw[H3 h];rfl
  .rw[H3 h,o5]) xs
 exact h.imp λh=>H4 h
theorem zcH{V:Type}{Y:V->Nat}{xs ys:List V}(hi:∀x∈xs,∀y∈xs,Y x=Y y->x=y)(h1:ys.Perm xs)(h2:ys.Pairwise λa b=>Y a<=Y b):ys=srt Y xs:=
 List.Perm.eq_of_pairwise (λa b ha hb E2 Er=>hi a (h1.mem_iff.mp ha) b ((zR Y xs).mem_iff.mp hb) (fh E2 Er)) h2 (zgM Y xs) (h1.trans (zR Y xs).symm)
theorem zia{V:Type}{f:V->AV}(u:AV->V)(hu:∀x,u (f x)=x){xs:List V}(Y:V->Nat)(hi:∀x∈xs,∀y∈xs,Y x=Y y->x=y)(hk:y8 (xs.map f))(Cu:∀x∈xs,∀y∈xs,uE U (f x) (f y) (decide (Y x<Y y)))
  (q:tO r ((srt Y xs).map f) Q U):xL r (xs.map f) Q U:=by
 unfold xL;refine zz (λv=>Y (u v)) hk (λa ha b hb=>?_) (λys h1 h2=>?_)
 .refine za (List.mem_map.mp ha) λx hx CP=>?_;subst CP;refine za (List.mem_map.mp hb) λy hy Dc=>?_;subst Dc;simp only[hu];exact Cu x hx y hy
 .obtain⟨p1,p2⟩:=zgy hu h1;rw[p2,zcH hi p1 (List.pairwise_map.mpr h2)];exact q
noncomputable abbrev td:=Int×Int
noncomputable def zD(e:td):AV:=.tup [.int e.1,.int e.2]
noncomputable abbrev Tr:=Int×zn
noncomputable def vY(t:Tr):AV:=.tup [.int t.1,.str t.2.1.toNat,.int t.2.2]
noncomputable def v6(v:AV):Int:=v.intE 0 λi=>i
noncomputable def BA(v:AV):Tr:=v.tupE (0,(ai,0)) λl=>(v6 (l.getD 0 .none),(ch ((l.getD 1 .none).strE 0 λi=>i) 1,v6 (l.getD 2 .none)))
theorem zvL(t):BA (vY t)=t:=by
 obtain⟨d,b,k⟩:=t;cases b<;>rfl
noncomputable def ui(t:Tr):Nat:=(t.1.toNat*2+t.2.1.toNat)*1000000+t.2.2.toNat
structure ul(t:Tr):Prop where
 day:0<=t.1
 lo:0<=t.2.2
 hi:t.2.2<1000000
theorem zaI{M x y k k':Nat}(h:k<M)(h':k'<M)(e:x*M+k=y*M+k'):x=y/\k=k':=by
 have e1:x=y:=by
  rcases oo x y with hl|hl|hl
  .exact absurd e (bl (aS (dN h _) (ap (f0 x M▸bI M hl) (bN ..))))
  .exact hl
  .exact absurd e (eW (aS (dN h' _) (ap (f0 y M▸bI M hl) (bN ..))))
 subst e1;exact⟨rfl,Nat.add_left_cancel e⟩
theorem zbb{M x y k k':Nat}(h:k<M)(h':k'<M):x*M+k<y*M+k'↔x<y\/x=y/\k<k':=by
 constructor
 .intro e
  rcases oo x y with hl|hl|hl
  .exact .inl hl
  .subst hl;exact .inr ⟨rfl,Nat.lt_of_add_lt_add_left e⟩
  .exact absurd e (Nat.not_lt_of_ge (cX (aS (dN h' _) (ap (f0 y M▸bI M hl) (bN ..)))))
 .rintro(hl|⟨rfl,hl⟩)
  .exact aS (dN h _) (ap (f0 x M▸bI M hl) (bN ..))
  .exact dN hl _
theorem qm{k:Int}(h:k<1000000):k.toNat<1000000:=y33 h
theorem zav{a b:Int}(ha:0<=a)(hb:0<=b)(e:a.toNat=b.toNat):a=b:=by rw[<-cN ha,e,cN hb]
theorem toNat_lt{a b:Int}(ha:0<=a)(hb:0<=b):a.toNat<b.toNat↔a<b:=by rw[Int.lt_toNat,cN ha]
theorem zpr{t u:Tr}(ht:ul t)(hu:ul u)(h:ui t=ui u):t=u:=by
 obtain⟨d,b,k⟩:=t;obtain⟨d',b',k'⟩:=u;obtain⟨h1,h2⟩:=zaI (qm ht.hi) (qm hu.hi) h;obtain⟨h3,h4⟩:=zaI (bA (dK b)) (bA (dK b')) h1;have e1:d=d':=zav ht.day hu.day h3;have e2:k=k':=zav ht.lo hu.lo h2;subst e1 e2;cases b<;>cases b'<;>first|rfl|cases h4
theorem znR(a c)(b):(nN [.int a,.str b,.int c]).depth<=100:=ba rfl
theorem zk8:∀c:Bool,aU (.str (zC c.toNat)) (.str (zC (!c).toNat))=ai:=by decide +kernel
theorem zh8:∀c:Bool,uc (.str (zC c.toNat)) (.str (zC (!c).toNat))=ae (!c):=by
 intro c;cases c<;>decide +kernel
theorem zf0[Decidable p][Decidable q](h:p↔q):ae (decide p)=ae (decide q):=congrArg ae (decide_eq_decide.mpr h)
theorem zvH{t u:Tr}(ht:ul t)(hu:ul u):uE U (vY t) (vY u) (decide (ui t<ui u)):=by
 obtain⟨d,b,k⟩:=t;obtain⟨d',b',k'⟩:=u;refine jh _ _ (.tup (.cons (.int _) (.cons (.str _) (.cons (.int _) .nil)))) (.tup (.cons (.int _) (.cons (.str _) (.cons (.int _) .nil)))) (znR ..) (znR ..) ?_;have hd:=toNat_lt ht.day hu.day;have hk:=toNat_lt ht.lo hu.lo;have key:ui (d,b,k)<ui (d',b',k')↔d<d'\/d=d'/\(b.toNat<b'.toNat\/b.toNat=b'.toNat/\k<k'):=by
  unfold ui;dsimp only at hd hk ⊢;rw[zbb (qm ht.hi) (qm hu.hi),zbb (bA (dK b)) (bA (dK b')),hd,hk];constructor
  .rintro((h|⟨h1,h2⟩)|⟨h1,h2⟩)
   .exact .inl h
   .exact .inr ⟨zav ht.day hu.day h1,.inl h2⟩
   .obtain⟨h3,h4⟩:=zaI (bA (dK b)) (bA (dK b')) h1;exact .inr ⟨zav ht.day hu.day h3,.inr ⟨h4,h2⟩⟩
  .rintro(h|⟨rfl,h|⟨h1,h2⟩⟩)
   .exact .inl (.inl h)
   .exact .inl (.inr ⟨rfl,h⟩)
   .exact .inr ⟨by rw[h1],h2⟩
 rw[zem,q9]
 by_cases e:d=d'
 .subst e;rw[if_pos (by simp only[aU,on]),q9];have key:ui (d,b,k)<ui (d,b',k')↔(b.toNat<b'.toNat\/b.toNat=b'.toNat/\k<k'):=key.trans ⟨λh=>(h.resolve_left (iP d)).2,λh=>.inr ⟨rfl,h⟩⟩;have same:∀c:Bool,(if aU (.str (zC c.toNat)) (.str (zC c.toNat)) then uq [.int k] [.int k'] else uc (.str (zC c.toNat)) (.str (zC c.toNat)))=ae (decide (k<k')):=λc=>by
   rw[if_pos (by simp only[aU,on]),q9]
   by_cases ek:k=k'
   .subst ek;rw[if_pos (by simp only[aU,on]),zgl,H0 (iP k)]
   .rw[if_neg (by simpa only[aU,beq_iff_eq] using ek),zcq]
  cases b<;>cases b'
  .exact(same ai).trans (zf0 (key.trans ⟨λh=>(h.resolve_left (cW 0)).2,λh=>.inr ⟨rfl,h⟩⟩).symm)
  .refine Eq.trans ?_ (congrArg ae (H3 (key.mpr (.inl Nat.zero_lt_one))).symm);exact(if_neg (ne_true_of_eq_false (zk8 ai))).trans (zh8 ai)
  .refine Eq.trans ?_ (congrArg ae (H0 λh=>(key.mp h).elim (dF _) λh=>nomatch h.1).symm);exact(if_neg (ne_true_of_eq_false (zk8 ag))).trans (zh8 ag)
  .exact(same ag).trans (zf0 (key.trans ⟨λh=>(h.resolve_left (cW 1)).2,λh=>.inr ⟨rfl,h⟩⟩).symm)
 .rw[if_neg (by simpa only[aU,beq_iff_eq] using e),zcq];exact zf0 (key.trans ⟨λh=>h.resolve_right λh=>e h.1,.inl⟩).symm
noncomputable def vU(s:Bool)(es:List td):List Tr:=(bJ es.length).map λi=>((es.getD i (0,0)).1,(s,(i:Int)))
noncomputable def uu(es fs:List td):List Tr:=vU ai es++vU ag fs
noncomputable def ti(es fs:List td):List Tr:=srt ui (uu es fs)
structure sO(es:List td):Prop where
 day:∀e∈es,0<=e.1/\e.1<=9999
 cents:∀e∈es,e.2.natAbs<=1000000000
 len:es.length<=1000
theorem getD_mem{V:Type}{l:List V}{d:V}(h:k<l.length):l.getD k d∈l:=by
 rw[aF,aC h];exact cH h
theorem jD{V:Type}{l:List V}{d:V}(h:k<l.length):l[k]? = ae (l.getD k d):=by
 rw[aF,aC h];rfl
theorem qI(he:sO es)(hf:sO fs)(h:t∈uu es fs):ul t/\∃k:Nat,t.2.2=k/\k<(if t.2.1 then fs else es).length/\((if t.2.1 then fs else es).getD k (0,0)).1=t.1:=by
 rcases List.mem_append.mp h with h|h<;>obtain⟨i,hi,rfl⟩:=List.mem_map.mp h<;>have hi:=List.mem_range.mp hi
 .have:=he.len;exact zga ⟨(he.day _ (getD_mem hi)).1,cR i,by show (i:Int)<1000000;exact zb 0xf424092419a0400fa2410182905006 rfl hi this⟩ i rfl hi rfl
 .have:=hf.len;exact zga ⟨(hf.day _ (getD_mem hi)).1,cR i,by show (i:Int)<1000000;exact zb 0xf424092419a0400fa2410182905006 rfl hi this⟩ i rfl hi rfl
theorem zns(es fs):(uu es fs).length=es.length+fs.length:=by unfold uu vU;simp
theorem inO_mem:t∈ti es fs↔t∈uu es fs:=(zR ..).mem_iff
theorem zbq(es fs):(ti es fs).length=es.length+fs.length:=by rw[<-zns];exact(zR ..).length_eq
theorem zhp(G:Gd X (hK P))(hd:n<590)(hb:U pb=ae (.list (es.map zD)))(hk:U pk=ae (.list (fs.map zD)))(he:sO es)(hf:sO fs)(q:Q (.lst ((ti es fs).map λt=>z7 t.2)) U) :
  sy X 40 ⟨n,ai⟩ [.ref pb,.ref pk] Q Z U:=by
 refine zi9 G (aw hd (by decide)) λL=>?_;have l1:=he.len;have l2:=hf.len;refine ze (zB hb) ?_;rw[am];refine zdm (zgS l1) (z8 (λi=>vY ((es.getD i (0,0)).1,(ai,(i:Int)))) (λ_=>rfl) (λ_ _=>rfl) (λi hi R q=>?_) trivial (by rw[be];exact zgS l1) ?_)
 .refine jE hb (ze (zae (jD (d:=(0,0)) (List.mem_range.mp hi))) ?_);exact q
 refine ze (zB hk) ?_;rw[am];refine zdm (zgS l2) (z8 (λi=>vY ((fs.getD i (0,0)).1,(ag,(i:Int)))) (λ_=>rfl) (λ_ _=>rfl) (λi hi R q=>?_) trivial (by rw[be];exact zgS l2) ?_)
 .refine jE hk (ze (zae (jD (d:=(0,0)) (List.mem_range.mp hi))) ?_);exact q
 refine zN (by rw[am,am,be,be];exact zrX l1 l2) ?_;have e:((bJ es.length).map λi=>vY ((es.getD i (0,0)).1,(ai,(i:Int))))++((bJ fs.length).map λi=>vY ((fs.getD i (0,0)).1,(ag,(i:Int))))=(uu es fs).map vY:=by
  unfold uu vU;rw[aB,aL,aL];rfl
 rw[e];refine zia BA zvL ui (λx hx y hy=>zpr (qI he hf hx).1 (qI he hf hy).1) (.inl λx hx=>?_) (λx hx y hy=>zvH (qI he hf hx).1 (qI he hf hy).1) ?_
 .refine za (List.mem_map.mp hx) λt _ E1=>?_;subst E1;exact j3 _ _ rfl
 exact z8 (λt=>z7 t.2) (λ_=>rfl) (λ_ _=>rfl) (λt ht R q=>q) trivial (by have:=zbq es fs;unfold ti at this;exact zc 0x1e8481200041a0046003e890806003e890406 rfl l1 l2 this) (sD.same q)
end
section
variable{P:Hm}{X:Cx}{n:Nat}{Q:zt}{Z:XP}{U:su}
inductive sZ(U:su):List aH->List (List AV)->Prop
 | nil:sZ U [] []
 | cons {r:aH} {rs:List aH} {g:List AV} {gs:List (List AV)}:U r=ae (.list g)->sZ U rs gs->sZ U (r::rs) (g::gs)
theorem sZ.set{rs gs}(h:sZ U rs gs)(hp:p∉rs):sZ (U.set p o) rs gs:=by
 induction h with
 | nil=>exact .nil
 | cons h r ih=>exact .cons (by rw[su.wB _ _ (λe=>hp (by rw[e];exact aj))];exact h) (ih λq=>hp (al _ q))
theorem sZ.snoc(hp:U p=ae (.list g)){rs gs}(h:sZ U rs gs):sZ U (rs++[p]) (gs++[g]):=by
 induction h with
 | nil=>exact .cons hp .nil
 | cons h r ih=>exact .cons h ih
theorem sZ.unsnoc(h:sZ U rs (gs++[g])):∃DS r,rs=DS++[r]/\sZ U DS gs/\U r=ae (.list g):=by
 induction gs generalizing rs with
 | nil=>cases h with|cons h r=>cases r;exact⟨[],_,rfl,.nil,h⟩
 | cons g' gs ih=>
  cases h with
  | cons h r=>
   exact zm (ih r) λDS q e h1 h2=>zP (_::DS) q (by rw[e];rfl) (.cons h h1) h2
theorem sZ.at_(h:sZ U rs gs)(e:(rs.zip gs).lookup a=ae g):a∈rs/\U a=ae (.list g):=by
 induction h with
 | nil=>exact nos e
 | @cons r rs g' gs h hr ih=>
  rw[i8,bF] at e;split at e
  .rename_i e';obtain rfl:=Hz e;rw[H7 e'];exact⟨aj,h⟩
  .exact⟨al _ (ih e).1,(ih e).2⟩
theorem zn7(l):uW φ l l:=by
 induction l with
 | nil=>exact .nil
 | cons x l ih=>exact .cons (.same x) ih
theorem sD.lists(hs:∀a o,U a=ae o->U' a=ae o)(hp:U' p=ae (.list (rs.map .ref)))(h:sZ U' rs gs)(nd:(p::rs).Nodup)(hn:∀a∈p::rs,U a=af)(q:Q (.lst (gs.map .lst)) U):sD Q (.ref p) U':=by
 have ES:=List.nodup_cons.mp nd;unfold sD;refine kH (λa=>if a=p then ae (gs.map .lst) else (rs.zip gs).lookup a) U _ ⟨λa ys e=>?_,hs⟩ (.lst (if_pos rfl)) q;split at e
 .rename_i e';subst e';cases e
  refine zah (hn _ aj) _ hp ?_;have Dj:∀(φ:aH->Option (List AV)) (rs:List aH) (gs:List (List AV)),rs.length=gs.length->(∀r g,(r,g)∈rs.zip gs->φ r=ae g)->uW φ (rs.map .ref) (gs.map .lst):=λφ rs=>by
   induction rs with
   | nil=>intro gs hl _;cases gs with|nil=>exact .nil|cons _ _=>cases hl
   | cons r rs ih=>intro gs hl hφ;cases gs with|nil=>cases hl|cons g gs=>exact .cons (.lst (hφ r g aj)) (ih gs (fN hl) λr g h=>hφ r g (al _ h))
  have hl:rs.length=gs.length:=by clear hp nd ES hn q;induction h with|nil=>rfl|cons _ _ ih=>rw[au,au,ih]
  refine Dj _ rs gs hl λr g hrg=>?_;have hr:r∈rs:=(gL hrg).1;rw[if_neg (λe:r=a=>ES.1 (e▸hr))];clear hp hn nd h q hr;have nd:=ES.2;clear ES
  induction rs generalizing gs with
  | nil=>cases hrg
  | cons r' rs ih=>
   cases gs with
   | nil=>cases hl
   | cons g' gs=>
    have nd:=List.nodup_cons.mp nd;rw[i8,bF]
    rcases List.mem_cons.mp hrg with e|hrg
    .cases e;rw[on]
    .have CL:(r==r')=ai:=beq_eq_false_iff_ne.mpr λe=>nd.1 (e▸(gL hrg).1);rw[CL];exact ih (fN hl) hrg nd.2
 .obtain⟨h1,h2⟩:=h.at_ e;exact zah (hn _ (al _ h1)) _ h2 (zn7 _)
theorem zko(xs:List AV)(x:AV):jM (xs++[x]) (-1)=ae x:=by
 unfold jM;rw[if_neg (by decide),aq,aG,if_pos zAv];have:(-1+((xs.length+1:Nat):Int)).toNat=xs.length:=zAy;rw[this,bY (ar _),gX];rfl
noncomputable def wc(span:Int)(l:Option Int)(d:Int):Bool:=match l with|none=>ag|some l=>decide (d>l+span)
noncomputable def jV(gs:List (List zn))(m:zn):List (List zn):=match gs.getLast? with|none=>gs|some g=>gs.dropLast++[g++[m]]
theorem jW(gs)(g)(m):jV (gs++[g]) m=gs++[g++[m]]:=by unfold jV;simp
noncomputable def qZ(span:Int)(b:List (List zn)×Option Int)(t:Tr):List (List zn)×Option Int:=(jV (if wc span b.2 t.1 then b.1++[[]] else b.1) t.2,ae t.1)
noncomputable def grps(es fs:List td)(span:Int):List (List zn):=((ti es fs).foldl (qZ span) ([],af)).1
noncomputable def Cj(l:Option Int):AV:=match l with|none=>.none|some i=>.int i
noncomputable def uB(g:List zn):AV:=.lst (g.map z7)
structure tm(U U':su)(p:aH)(gs:List (List zn)):Prop where
 ex:∃rs:List aH,U' p=ae (.list (rs.map .ref))/\sZ U' rs (gs.map λg=>g.map z7)/\(p::rs).Nodup/\∀a∈p::rs,U a=af
 sub:∀a o,U a=ae o->U' a=ae o
theorem zoj(h:sZ U rs gs):rs.length=gs.length:=by
 induction h with
 | nil=>rfl
 | cons _ _ ih=>rw[au,au,ih]
theorem sZ.some(h:sZ U rs gs)(hr:r∈rs):U r≠af:=by
 induction h with
 | nil=>cases hr
 | cons h' _ ih=>
  rcases List.mem_cons.mp hr with rfl|hr
  .rw[h'];exact λe=>nomatch e
  .exact ih hr
theorem tm.open_(h1:U' p=ae (.list (rs.map .ref)))(h2:sZ U' rs (gs.map λg=>g.map z7))(h3:(p::rs).Nodup)(h4:∀a∈p::rs,U a=af)(hs:∀a o,U a=ae o->U' a=ae o)(hr:U' r=af) :
  tm U ((U'.set r (.list [])).set p (.list (rs.map .ref++[.ref r]))) p (gs++[[]]):=by
 have GG:r≠p:=by rintro rfl;rw[h1] at hr;exact absurd hr (aA _)
 have I8:r∉rs:=λh=>h2.some h hr;have Ph:U r=af:=by
  cases e:U r with
  | none=>rfl
  | some o=>rw[hs r o e] at hr;exact absurd hr (aA _)
 have nd:=List.nodup_cons.mp h3;refine⟨(qJ (rs++[r]) ?_ ?_ ?_ ?_),λa o e=>?_⟩
 .rw[su.wA,aB];rfl
 .rw[aB];exact sZ.snoc (by rw[su.wB _ _ GG];exact su.wA ..) ((h2.set I8).set nd.1)
 .refine List.nodup_cons.mpr ⟨λh=>?_,List.nodup_append.mpr (zu nd.2 (List.nodup_cons.mpr ⟨aZ,.nil⟩) (λa ha b hb e=>?_))⟩
  .rcases List.mem_append.mp h with h|h
   .exact nd.1 h
   .exact GG (List.mem_singleton.mp h).symm
  .rw[List.mem_singleton.mp hb] at e;exact I8 (e▸ha)
 .intro a ha
  rcases List.mem_cons.mp ha with rfl|ha
  .exact h4 _ aj
  .rcases List.mem_append.mp ha with ha|ha
   .exact h4 _ (al _ ha)
   .rw[List.mem_singleton.mp ha];exact Ph
 .rw[su.wB _ _ (by rintro rfl;rw[h4 _ aj] at e;exact nos e),su.wB _ _ (by rintro rfl;rw[Ph] at e;exact nos e)];exact hs a o e
theorem tm.last(h:tm U U' p gs)(CL:gs≠[]):∃xs r g,U' p=ae (.list (xs++[.ref r]))/\U' r=ae (.list (g.map z7))/\g∈gs/\∀m,tm U (U'.set r (.list (g.map z7++[z7 m]))) p (jV gs m):=by
 obtain⟨⟨rs,h1,h2,h3,h4⟩,hs⟩:=h;obtain⟨g0,g,rfl⟩:∃g0 g,gs=g0++[g]:=(j3 _ _ ((de CL).symm))
 rw[aB] at h2;refine zm h2.unsnoc λDS r Dc EQ Fa=>?_;subst Dc;have nd:=List.nodup_cons.mp h3;have Nt:r≠p:=λe=>nd.1 (by rw[e];simp);have IL:r∉DS:=λh=>(List.nodup_append.mp nd.2).2.2 r h r aj rfl;rw[aB] at h1;refine jY (DS.map .ref) r g h1 Fa (aJ _ aj) (λm=>?_);rw[jW];refine⟨(qJ (DS++[r]) ?_ ?_ h3 h4),λa o e=>?_⟩
 .rw[su.wB _ _ (bO Nt),aB];exact h1
 .have e:(g0++[g++[m]]).map (λg=>g.map z7)=g0.map (λg=>g.map z7)++[(g++[m]).map z7]:=aB ..;rw[e];exact(EQ.set IL).snoc (by rw[su.wA,aB];rfl)
 .rw[su.wB _ _ (by rintro rfl;rw[h4 a (by simp)] at e;exact nos e)];exact hs a o e
theorem zrx{V:Type}{l:List V}(h:l≠[]):∃a b,l=a++[b]:=j3 _ _ (de h).symm
theorem znn(h:gs≠[])(h1:gs.length<=k)(h2:∀g∈gs,g.length<k):jV gs m≠[]/\(jV gs m).length<=k/\∀g∈jV gs m,g.length<=k:=by
 refine z0 (zrx h) λg0 g e=>?_;subst e;rw[jW];refine⟨fw _ (λe=>nomatch e),by rw[aq] at h1 ⊢;exact h1,λz hz=>(List.mem_append.mp hz).elim (λh=>cX (h2 z (aW _ h))) λh=>?_⟩;rw[List.mem_singleton.mp h,aq];exact h2 g (aJ _ aj)
theorem zpc{gs:List (List zn)}(h1:gs.length<=k)(h2:∀g∈gs,g.length<=k):gs++[[]]≠[]/\(gs++[[]]).length<=k+1/\∀g∈gs++[[]],g.length<k+1:=
 ⟨fw _ (λe=>nomatch e),by rw[aq];exact b6 h1,λz hz=>(List.mem_append.mp hz).elim (λh=>bA (h2 z h)) λh=>by rw[List.mem_singleton.mp h];exact dG k⟩
noncomputable def Am(pb pk:aH)(span:Int)(p:aH)(a:AV)(u v:Option AV):Loc:=[ae (.ref pb),ae (.ref pk),ae (.int span),ae (.ref p),ae a,u,v]
structure yM(U:su)(es fs:List td)(span:Int)(pb pk p:aH)(xs:List Tr)(b:List (List zn)×Option Int)(l:Loc)(U':su):Prop where
 gr:tm U U' p b.1
 ne:b.2=af\/b.1≠[]
 hl:∃u v,l=Am pb pk span p (Cj b.2) u v
 few:∃j,j+xs.length<=100000/\b.1.length<=j/\∀g∈b.1,g.length<=j
 hx:∀t∈xs,t∈uu es fs
section
variable{es fs:List td}{span:Int}{pb pk p:aH}{t:Tr}{xs:List Tr}{I:su->Prop}{K:Loc->su->Prop}{S:je}
theorem zkE{d:Dp}{gs:List (List zn)}{a:AV}{j:Nat}{U':su}(hI:∀U,I U)(h:tm U U' p gs)(CL:gs≠[])(hj:j+xs.length<=100000)(h1:gs.length<=j)(h2:∀g∈gs,g.length<j)(hx:∀t∈xs,t∈uu es fs)(hK:∀l' U',yM U es fs span pb pk p xs (jV gs t.2,ae t.1) l' U'->K l' U') :
  (Gc (Gs (Gw zX (Gg (Ga 3) (G3 (Gb (.int 1)))) [(Ga 5)])) (Gc (Gh 4 (Ga 6)) Ge)) d (Am pb pk span p a (ae (z7 t.2)) (ae (.int t.1))) (G0 I K S) G1 U':=by
 refine zcR (h.last CL) λys r g k1 k2 k3 k4=>?_;have hf:=znn CL h1 h2 (m:=t.2);have hg:=h2 g k3;refine jE k1 (ze (zko _ _) (zo k2 (zo k2 (zN (by rw[am];exact ap hg (ap (bN _ _) (ap hj (by decide)))) ?_))));exact⟨hI _,hK _ _ ⟨k4 t.2,.inr hf.1,j3 _ _ rfl,zz j hj hf.2.1 hf.2.2,hx⟩⟩
theorem zqE{d:Nat}(G:Gd X (hK P))(hd:d<581)(hb:U pb=ae (.list (es.map zD)))(hk:U pk=ae (.list (fs.map zD)))(he:sO es)(hf:sO fs){b:List (List zn)×Option Int}{l:Loc}{U':su}(hI:∀U,I U)(h:yM U es fs span pb pk p (t::xs) b l U')(hK:∀l' U',yM U es fs span pb pk p xs (qZ span b t) l' U'->K l' U') :
  ∃l',j2 (.one 5) (z7 t.2) l=ae l'/\BC X ⟨d,ai⟩ l' (G0 I K S) G1 U':=by
 refine z0 h.hl λu v el=>zl h.few λj hj h1 h2=>?_;subst el;have hx:=List.forall_mem_cons.mp h.hx;have hs:=h.gr.sub;rw[au] at hj;refine zqn (qI he hf hx.1) λ_ k Dg EB Ld=>zf _ rfl (zda G (aw hd (by decide)) (hs _ _ hb) (hs _ _ hk) (m:=t.2) (k:=k) (e:=.tup [.int t.1,.int ((if t.2.1 then fs else es).getD k (0,0)).2]) ?_ Dg ?_)
 .rw[<-Ld];cases hbb:t.2.1<;>rw[hbb] at EB<;>simp only[aT,if_false,if_true] at EB ⊢<;>rw[bQ,jD (d:=(0,0)) EB]<;>rfl
 have Nh:j+1+xs.length<=100000:=by rw[cJ,lO 1];exact hj
 have hn:=zpc h1 h2;have Mc:wc span b.2 t.1=ag->wm U' p λ_=>∀r,U' r=af->wm (U'.set r (.list [])) p λys=>vh (ys.length+1) ((Gc (Gs (Gw zX (Gg (Ga 3) (G3 (Gb (.int 1)))) [(Ga 5)])) (Gc (Gh 4 (Ga 6)) Ge)) ⟨d,ai⟩ (Am pb pk span p (Cj b.2) (ae (z7 t.2)) (ae (.int t.1))) (G0 I K S) G1 ((U'.set r (.list [])).set p (.list (ys++[.ref r])))):=λho=>by
  refine zM h.gr.ex λrs g1 g2 g3 g4=>zo g1 λr hr=>?_;have GG:p≠r:=λe=>by rw[<-e,g1] at hr;exact absurd hr (aA _)
  refine zo ((su.wB _ _ GG).trans g1) (zN (by rw[am,zoj g2,am];exact ap (b6 h1) (ap (bN _ _) (ap Nh (by decide)))) ?_);refine zkE hI (tm.open_ g1 g2 g3 g4 hs hr) hn.1 Nh hn.2.1 hn.2.2 hx.2 ?_;unfold qZ at hK;rw[ho] at hK;exact hK
 cases DJ:b.2 with
 | none=>
  rw[DJ] at Mc;exact Mc rfl
 | some la=>
  rw[DJ] at Mc;refine zaS (λho=>Mc ho) λho=>zkE hI h.gr (h.ne.resolve_left λe=>by rw[DJ] at e;exact nso e) Nh (bS h1) (λg hg=>bA (h2 g hg)) hx.2 ?_;have ho:wc span b.2 t.1=ai:=by rw[DJ];exact ho
  unfold qZ at hK;rw[ho] at hK;exact hK
end
theorem zhk(G:Gd X (hK P))(hd:n<580)(hb:U pb=ae (.list (es.map zD)))(hk:U pk=ae (.list (fs.map zD)))(he:sO es)(hf:sO fs)(q:∀U' p,tm U U' p (grps es fs span)->sD Q (.ref p) U') :
  sy X 47 ⟨n,ai⟩ [.ref pb,.ref pk,.int span] Q Z U:=by
 refine zou G (aw hd (by decide)) λL=>?_;intro p hp;refine zhp (G.push L) (ziy hd) (zF hp _ _ hb) (zF hp _ _ hk) he hf ?_;refine qD (g:=λt:Tr=>z7 t.2) (yM U es fs span pb pk p) (qZ span) (λt xs b l U' K S_ h hK=>zqE (G.push L) (bH hd) hb hk he hf (λ_=>trivial) h hK) (b:=([],af)) (λl U' h=>?_)
  ⟨⟨qJ [] (su.wA ..) .nil (List.nodup_cons.mpr ⟨aZ,.nil⟩) (λa ha=>by rw[List.mem_singleton.mp ha];exact hp),zF hp⟩,.inl rfl,j3 _ _ rfl,zz 0 (by have:=zbq es fs;have:=he.len;have:=hf.len;rw[ci];exact zc 0x30d41200000fa24201800fa24101841a0046 rfl (by assumption) (by assumption) this) (ar 0) (λg hg=>nomatch hg),λt ht=>inO_mem.mp ht⟩
 refine z0 h.hl λu v el=>?_;subst el;exact q U' p h.gr
theorem zlE(G:Gd X (hK P))(hd:n<580)(hb:U pb=ae (.list (es.map zD)))(hk:U pk=ae (.list (fs.map zD)))(he:sO es)(hf:sO fs)(q:Q (.lst ((grps es fs span).map uB)) U) :
  sy X 47 ⟨n,ai⟩ [.ref pb,.ref pk,.int span] Q Z U:=by
 refine zhk G hd hb hk he hf λU' p hG=>?_;obtain⟨⟨rs,h1,h2,h3,h4⟩,hs⟩:=hG;refine sD.lists hs h1 h2 h3 h4 ?_;rw[aL];exact q
end
section
variable{P:Hm}{X:Cx}{n:Nat}{Q:zt}{Z:XP}{U:su}
noncomputable def kR(r:List Int):AV:=.tup (r.map .int)
theorem zfE(r):sN 1 (kR r):=.tup λx hx=>by refine za (List.mem_map.mp hx) λi _ CU=>?_;subst CU;exact .int i
theorem zkA(hf:∀x∈xs,sN k x)(hk:k<100)(q:R xs.isEmpty U):tV (.tup xs) (.tup []) R U:=by
 refine zcc (k:=k+1) (j:=1) (.tup hf) (.tup λx hx=>nomatch hx) hk (λh=>?_) λh=>?_
 .cases h;exact q
 .cases xs with|nil=>exact absurd rfl h|cons _ _=>exact q
noncomputable def vM(r:List Int)(p:Int):Bool:=match r.getLast? with|none=>ag|some q=>decide (p>q)
noncomputable def ud(ps:List Int)(r:List Int):List (List Int):=(ps.filter (vM r)).map λp=>r++[p]
noncomputable def qQ(ps:List Int)(k:Nat):List (List Int):=match k with|0=>[[]]|k+1=>(qQ ps k).flatMap (ud ps)
theorem zce(ps r):(ud ps r).length<=ps.length:=by unfold ud;rw[am];exact bL _ _
theorem zhh{V:Type}{f:V->List (List Int)}(h:∀a,(f a).length<=c)(l:List V):(l.flatMap f).length<=l.length*c:=by
 induction l with
 | nil=>exact aE _
 | cons a l ih=>rw[cM,aq,au,f0];have:=h a;exact zg 0xc54082801800610406 rfl ih this
theorem zlB(rs:List (List Int))(acc):rs.foldl (λb r=>b++ud ps r) acc=acc++rs.flatMap (ud ps):=by
 induction rs generalizing acc with
 | nil=>exact(bz _).symm
 | cons r rs ih=>rw[bV,ih,cM,aR]
theorem zlC(k):(bJ k).foldl (λb _=>b.flatMap (ud ps)) [[]]=qQ ps k:=by
 induction k with
 | zero=>rfl
 | succ k ih=>rw[gP,List.foldl_append,ih];rfl
noncomputable def xE(ps:List Int)(m:Nat)(b:List (List Int))(u v w:Option AV):Loc:=[ae (.lst (ps.map .int)),ae (.int m),ae (.lst (b.map kR)),u,v,w]
section
variable{ps:List Int}{m:Nat}{b:List (List Int)}{d:Nat}{I:su->Prop}{u:Option AV}{K:Loc->su->Prop}{S:je}
theorem zzx(hI:I U)(hl:ps.length<=8)(ha:acc.length+8*(N+1)<=512)(Mr:r.length<=3)(hK:K (xE ps m b u (ae (.lst ((acc++ud ps r).map kR))) (ae (kR r))) U) :
  BI X ⟨d,ai⟩ (xE ps m b u (ae (.lst (acc.map kR))) (ae (kR r))) (G0 I K S) G1 U:=by
 have Jk:=zce ps r;refine jm (g:=AV.int) (vM r) (λp=>kR (r++[p])) (λ_=>rfl) (λ_ _=>rfl) (λp hp R q=>?_) (λp hp _ R q=>?_) trivial (zt5 hl) ?_
 .refine zkA (k:=0) (λx hx=>by refine za (List.mem_map.mp hx) λi _ CP=>?_;subst CP;exact .int i) (by decide) ?_;unfold vM at q
  rcases gg r with rfl|⟨r',x,rfl⟩
  .exact q
  .rw[gh] at q ⊢;rw[List.getLast?_append,List.getLast?_singleton] at q;have e:(nS AV.int (r'++[x])).isEmpty=ai:=by rw[aB];cases r'.map AV.int<;>rfl
   rw[e]
   conv=>whnf
   rw[aB];exact ze (zko _ _) q
 .have:=Mr;refine zN (by rw[am,aG];exact zd 0x1e848124828058006 rfl this) ?_;unfold kR at q;rw[aB] at q;exact q
 .refine zN (by rw[am,am];unfold ud at Jk;rw[am] at Jk;exact zg 0x3d09024105002080c00401248e80001160500680806 rfl hl ha Jk) ?_;have e:acc.map kR++(ps.filter (vM r)).map (λp=>kR (r++[p]))=(acc++ud ps r).map kR:=by unfold ud;rw[aB,aL];rfl
  rw[e];exact⟨hI,hK⟩
theorem zzw(hI:I U)(hl:ps.length<=8)(hb:8*b.length<=512)(hr:∀r∈b,r.length<=3)(hK:∀v w,K (xE ps m (b.flatMap (ud ps)) u v w) U):Cr X ⟨d,ai⟩ (xE ps m b u v w) (G0 I K S) G1 U:=by
 refine qE (g:=kR) (λacc (w:Option AV)=>xE ps m b u (ae (.lst (acc.map kR))) w) (λ_=>U) (λys acc=>acc.length+8*ys.length<=512/\∀r∈ys,r.length<=3) (λacc r=>acc++ud ps r) (λr ys acc w K' S_ hJ=>?_) (b:=[]) (λw=>?_) ⟨by rw[bG];exact zd 0x10048000011645000040120000045806 rfl hb,hr⟩
 .obtain⟨ha,Mr⟩:=hJ;rw[au] at ha;exact⟨⟨by rw[aq];exact zg 0x40121000045820a5003080c00401248a80001160500680c06 rfl hl ha (zce ps r),λr hr=>Mr r (al _ hr)⟩,λLy=>zf _ rfl (zzx trivial hl ha (Mr r aj) (Ly _))⟩
 .rw[zlB,dZ];exact⟨hI,hK _ _⟩
end
theorem zeN(G:Gd X (hK P))(hd:n<590)(hl:ps.length<=8)(hm:m<=3)(q:Q (.lst ((qQ ps m).map kR)) U):sy X 130 ⟨n,ai⟩ [.lst (ps.map .int),.int m] Q Z U:=by
 refine zlR G (aw hd (by decide)) λL=>zdm (zkc hm) (qE (g:=λi:Nat=>AV.int i) (λb (c:Option AV×Option AV×Option AV)=>xE ps m b c.1 c.2.1 c.2.2) (λ_=>U) (λxs b=>b.length*8 ^ xs.length<=512/\∀r∈b,r.length+xs.length<=3) (λb _=>b.flatMap (ud ps)) (λi xs b c K S_ hJ=>?_) (b:=[[]]) (c:=(_,_,_)) (λc=>?_) ⟨?_,λr hr=>by rw[List.mem_singleton.mp hr,be,bG];exact zd 0xb0228058006 rfl hm⟩)
 .obtain⟨hb,GU⟩:=hJ;rw[au,oq] at hb;rw[au] at GU;have hx:1<=8 ^ xs.length:=pg (by decide);have Lu:8*b.length<=512:=ot b.length 8▸ap (Nat.mul_le_mul_left _ (by lia)) hb;refine⟨⟨?_,λr hr=>?_⟩,λhK=>zf _ rfl (zzw trivial hl Lu (λr hr=>zAT (GU r hr)) λv w=>hK (_,v,w))⟩
  .refine ap (bI _ (zhh (c:=8) (λa=>ap (zce ps a) hl) b)) ?_;rw[rG,ot 8];exact hb
  .refine za (List.mem_flatMap.mp hr) λr0 h0 h1=>za (List.mem_map.mp h1) λp _ Di=>?_;subst Di;have:=GU r0 h0;rw[aq,aG];exact zb 0x2c29052805a43405006 rfl this
 .rw[zlC];exact sD.same q
 .rw[be,aG,Nat.one_mul];exact ap (mG (by decide) hm) (by decide)
end
section
variable{P:Hm}{X:Cx}{n:Nat}{Q:zt}{Z:XP}{U:su}
theorem qp{c:Bool}{A B:Prop}(h:c=ag)(q:A):cB c A B:=by rw[h];exact q
theorem qo{c:Bool}{A B:Prop}(h:c=ai)(q:B):cB c A B:=by rw[h];exact q
def tA(ns:List Int)(n:Int):Prop:=ns.Pairwise (· < ·)/\∀p∈ns,0<=p/\p<n
theorem tA.lt{ns:List Int}{n:Int}(h:tA ns n){i:Nat}(hi:i+1<ns.length):ns.getD i 0<ns.getD (i+1) 0:=by
 have:=List.pairwise_iff_getElem.mp h.1 i (i+1) (zgU hi) hi (eY i);rw[aF,aF,aC hi,aC (zgU hi:i<ns.length)];exact this
theorem zcm(G:Gd X (hK P))(hd:n<590){ns:List Int}{m:Int}(hl:ns.length<=100)(hr:tA ns m)(q:Q (.bool ag) U):sy X 115 ⟨n,ai⟩ [kR ns,.int m] Q Z U:=by
 refine zhz G (aw hd (by decide)) λL=>?_
 conv=>whnf
 rw[am];refine zdm (zAc hl) (qE (β:=Unit) (g:=λi:Nat=>AV.int i) (λ_ (u:Option AV)=>[ae (kR ns),ae (.int m),u]) (λ_=>U) (λxs _=>∀i∈xs,i<ns.length) (λb _=>b) (λi xs _ u K S_ hx=>⟨λj hj=>hx j (al _ hj),λhK=>zf _ rfl ?_⟩) (b:=()) (λu=>sD.same q) λi hi=>List.mem_range.mp hi);have hi:=hx i aj;have hp:=hr.2 _ (getD_mem (d:=0) hi);refine ze (zae (jD (d:=0) hi)) (qp (H3 hp.1) ?_)
 conv=>whnf
 rw[H3 hp.2];cases i with
 | zero=>exact⟨trivial,hK _⟩
 | succ i=>
  refine qp (H3 zAs) (ze (zae (jD (d:=0) hi)) ?_)
  conv=>whnf
  have e:(((i+1:Nat):Int)-1)=(i:Int):=zt7;rw[e];refine ze (zae (jD (d:=0) (zgU hi))) ?_
  conv=>whnf
  have:=hr.lt hi;exact qo (H0 (y58 this)) ⟨trivial,hK _⟩
noncomputable def qN(es:List td)(p:Int):Int:=(es.getD p.toNat (0,0)).1
noncomputable def zT(es:List td)(p:Int):Int:=(es.getD p.toNat (0,0)).2
noncomputable def Ag(l:List Int)(span:Int):Bool:=l.all λa=>l.all λb=>decide (a-b<=span)
noncomputable def qS(es fs:List td)(m:Mt):List Int:=m.1.map (qN es)++m.2.map (qN fs)
theorem zfI(h1:M∈l)(h2:∀a∈l,a<=M)(h3:m∈l)(h4:∀a∈l,m<=a):decide (M-m<=span)=Ag l span:=by
 unfold Ag;rw[pq,decide_eq_true_iff,lh];refine⟨λh a ha=>List.all_eq_true.mpr λb hb=>H3 ?_,λh=>?_⟩
 .have:=h2 a ha;have:=h4 b hb;exact zq2 0x820a842409860098441d426 rfl h (by assumption) this
 .exact H4 (List.all_eq_true.mp (h M h1) m h3)
theorem zfR{es:List td}{p:Int}(h0:0<=p)(h1:p<es.length):jM (es.map zD) p=ae (.tup [.int (qN es p),.int (zT es p)]):=by
 obtain⟨k,rfl⟩:=d7 h0;refine(zae (jD (d:=(0,0)) (by lia))).trans ?_;unfold qN zT
 rfl
noncomputable def tW(es fs:List td)(span:Int)(m:Mt):Bool:=decide ((m.1.map (zT es)).sum=(m.2.map (zT fs)).sum)&&Ag (qS es fs m) span
theorem zg5(h:sO es)(p):(zT es p).natAbs<=1000000000:=by
 unfold zT
 by_cases hk:p.toNat<es.length
 .exact h.cents _ (getD_mem hk)
 .rw[aF,cA (Nat.not_lt.mp hk)];decide
theorem zfl(h:x.natAbs<=1000000000000000):PySem.InLong x:=
 have n:=nab (bA h)
 ⟨ou (lQ (by decide) n.1),lQ n.2 (by decide)⟩
theorem zj2(hl:ns.length<=1000)(h:∀a∈ns,a.natAbs<=1000000000000):iK ns:=by
 have Dj:∀(l:List Int),(∀a∈l,a.natAbs<=1000000000000)->l.sum.natAbs<=l.length*1000000000000:=by
  intro l
  induction l with
  | nil=>intro _;simp
  | cons a l ih=>
   intro h;have h1:=h a aj;have h2:=ih λb hb=>h b (al _ hb);simp only[List.sum_cons,au];exact ap (Int.natAbs_add_le a l.sum) (ap (cC h1 h2) (bp (by rw[f0,lO])))
 intro j hj;have h1:=h (ns.getD j 0) (mw hj);have h2:=Dj (ns.take (j+1)) λa ha=>h a (eR ha);have h3:(ns.take (j+1)).length<=1000:=ap (List.length_take_le' _ _) hl;exact⟨zfl (ap h1 (by decide)),zfl (ap h2 (bI _ h3))⟩
theorem zbw(h:sO es){ms:List Int}(hl:ms.length<=100):iK (ms.map (zT es)):=
 zj2 (by rw[am];exact zd 0x1f448000006490006 rfl hl) λa ha=>by
  refine za (List.mem_map.mp ha) λp _ CP=>?_;subst CP;have:=zg5 h p;lia
theorem zdJ(e:xs=ns.map .int)(h:iK ns)(q:Q (.int ns.sum) U):yD xs Q U:=by unfold yD;exact zz ns e h q
theorem zkP(h:ns≠[])(q:∀M,M∈ns->(∀a∈ns,a<=M)->Q (.int M) U):yy (ns.map .int) Q U:=by unfold yy;exact zz ns rfl h q
theorem zgq(h:ns≠[])(q:∀M,M∈ns->(∀a∈ns,M<=a)->Q (.int M) U):yU (ns.map .int) Q U:=by unfold yU;exact zz ns rfl h q
theorem zqw(G:Gd X (hK P))(hd:n<580){es fs:List td}{m:Mt}(hb:U pb=ae (.list (es.map zD)))(hk:U pk=ae (.list (fs.map zD)))(he:sO es)(hf:sO fs)
  (h1:fk (m.1.length:Int) m.2.length=1)(h2:fF (m.1.length:Int) m.2.length<=3)(r1:tA m.1 es.length)(r2:tA m.2 fs.length)(q:Q (.bool (tW es fs span m)) U):sy X 125 ⟨n,ai⟩ [.ref pb,.ref pk,.int span,zx m] Q Z U:=by
 refine ztd G (aw hd (by decide)) λL=>?_;have l1:m.1.length<=3:=zAK h2;have l2:m.2.length<=3:=zAM h2
 conv=>whnf
 rw[am,am];rw[h1];refine qo (H0 (zAL h2)) (ze (zB hb) ?_);rw[am];refine zcm (G.push L) (ziy hd) (zng l1) r1 ?_
 conv=>whnf
 refine ze (zB hk) ?_;rw[am];refine zcm (G.push L) (ziy hd) (zng l2) r2 ?_;have a1:∀p∈m.1,jM (es.map zD) p=ae (.tup [.int (qN es p),.int (zT es p)]):=λp hp=>zfR (r1.2 p hp).1 (r1.2 p hp).2;have a2:∀p∈m.2,jM (fs.map zD) p=ae (.tup [.int (qN fs p),.int (zT fs p)]):=λp hp=>zfR (r2.2 p hp).1 (r2.2 p hp).2;refine z8 (λp=>.int (zT es p)) (λ_=>rfl) (λ_ _=>rfl) (λp hp R q=>?_) trivial (zkc l1) ?_
 .exact jE hb (ze (a1 p hp) q)
 refine zdJ (ns:=m.1.map (zT es)) (by rw[aL];rfl) (zbw he (zng l1)) (z8 (λp=>.int (zT fs p)) (λ_=>rfl) (λ_ _=>rfl) (λp hp R q=>?_) trivial (zkc l2) ?_)
 .exact jE hk (ze (a2 p hp) q)
 refine zdJ (ns:=m.2.map (zT fs)) (by rw[aL];rfl) (zbw hf (zng l2)) ?_;unfold tW at q
 conv=>whnf
 by_cases hs:(m.1.map (zT es)).sum=(m.2.map (zT fs)).sum
 .rw[H3 hs] at q ⊢;rw[fb] at q;refine zaa (G.push L) (ziy hd) (znh l1) (znh l2) (z8 (λx=>.int (qN (if x.1 then fs else es) x.2)) (λ_=>rfl) (λ_ _=>rfl) (λx hx R q=>?_) trivial ?_ ?_)
  .have hx:(0<=x.2/\x.2<(if x.1 then fs else es).length):=by
    rcases List.mem_append.mp hx with h|h<;>obtain⟨p,hp,rfl⟩:=List.mem_map.mp h
    .exact r1.2 p hp
    .exact r2.2 p hp
   obtain⟨k,CO⟩:=d7 hx.1;refine zda (G.push L) (ziy hd) hb hk (k:=k) (e:=zD ((if x.1 then fs else es).getD k (0,0))) ?_ CO ?_
   .have:=hx.2;cases hbb:x.1<;>rw[hbb] at this<;>simp only[aT,if_false,if_true] at this ⊢<;>rw[bQ,jD (d:=(0,0)) (by lia)]<;>rfl
   .unfold qN at q;rw[CO,dI] at q;exact q
  .unfold zr;rw[aq,am,am];exact zb 0x1e84812082805840658006 rfl l1 l2
  have ed:(zr m).map (λx=>AV.int (qN (if x.1 then fs else es) x.2))=(qS es fs m).map .int:=by
   unfold zr qS;rw[aB,aB,aL,aL,aL,aL];rfl
  rw[ed];have ne:qS es fs m≠[]:=λe=>by
   have:=congrArg dH e;unfold qS at this;rw[aq,am,am,bG] at this;exact zb 0x1d010504648720ce066 rfl h1 this
  refine zkP ne λM JZ JB=>?_
  conv=>whnf
  refine zgq ne λM' Sk QE=>?_;rw[<-zfI JZ JB Sk QE] at q;exact sD.same q
 .rw[H0 hs] at q ⊢;exact sD.same q
end
theorem zdA:aU (.int i) (.int j)=(i==j):=by simp[aU]
noncomputable def kh(r:List Int):eA:=.tuple (r.map .int)
noncomputable def uO:List (Nat×Nat):=[(1,1),(1,2),(2,1),(1,3),(3,1)]
theorem mem_ext:s∈ud ps r↔∃p∈ps,vM r p=ag/\s=r++[p]:=by
 unfold ud;rw[fM];constructor
 .intro Da;refine za Da λp hp CU=>?_;subst CU;exact zz p ((List.mem_filter.mp hp).1) ((List.mem_filter.mp hp).2) rfl
 .intro CY;refine zl CY λp hp hl Ie=>?_;subst Ie;exact zf p (List.mem_filter.mpr ⟨hp,hl⟩) rfl
theorem zo8{V β:Type}{f:V->β}:∀{l:List V},l.Nodup->(∀a∈l,∀b∈l,f a=f b->a=b)->(l.map f).Nodup:=by
 intro l hn h;rw[ip,fW];exact(List.Pairwise.and_mem.mp (List.nodup_iff_pairwise_ne.mp hn)).imp λ{a b} ⟨ha,hb,CL⟩ e=>CL (h a ha b hb e)
def Up(ps s:List Int):Prop:=s.Pairwise (· < ·)/\∀p∈s,p∈ps
theorem zel(h:r.Pairwise (· < ·)):vM r p=ag↔∀a∈r,a<p:=by
 rcases gg r with rfl|⟨r0,z,rfl⟩
 .simp[vM]
 .rw[gh] at h ⊢;have EP:vM (r0++[z]) p=decide (p>z):=by unfold vM;simp
  rw[EP,decide_eq_true_iff];have h3:=(List.pairwise_append.mp h).2.2;constructor
  .intro hz a ha
   rcases List.mem_append.mp ha with ha|ha
   .have:=h3 a ha z aj;exact zaJ 0x148281124140982915026 rfl hz this
   .have:a=z:=by simpa using ha
    exact zaJ 0x520a04401982915026 rfl hz this
  .intro hz;exact hz z (aJ _ aj)
theorem mem_rowsN:∀{s:List Int},s∈qQ ps k↔s.length=k/\Up ps s:=by
 induction k with
 | zero=>
  intro s;constructor
  .intro h;rw[List.mem_singleton.mp h];exact zu rfl .nil (λ_ h=>nomatch h)
  .rintro⟨h,_⟩;rw[List.length_eq_zero_iff.mp h];exact List.mem_singleton.mpr rfl
 | succ k ih=>
  intro s;show s∈(qQ ps k).flatMap (ud ps)↔_;rw[gw];constructor
  .intro DN;refine za DN λr h1 h2=>zl (mem_ext.mp h2) λp hp hl HY=>?_;subst HY;obtain⟨e,hu⟩:=ih.mp h1;rw[zel hu.1] at hl;refine zu (by rw[aq,e];rfl) (List.pairwise_append.mpr (zu hu.1 (d8 _ _) (λa ha b hb=>?_))) (λq hq=>?_)
   .have:b=p:=by simpa using hb
    rw[this];exact hl a ha
   .rcases List.mem_append.mp hq with hq|hq
    .exact hu.2 q hq
    .have:q=p:=by simpa using hq
     rw[this];exact hp
  .rintro⟨e,hu⟩
   rcases gg s with rfl|⟨r,p,rfl⟩
   .cases e
   .rw[gh] at *;exact jg (List.pairwise_append.mp hu.1) λu1 u2 u3=>zf r (ih.mpr (zu (by rw[aq] at e;simpa using e) u1 (λq hq=>hu.2 q (aW _ hq)))) (mem_ext.mpr (zz p (hu.2 p (aJ _ aj)) ((zel u1).mpr λa ha=>u3 a ha p aj) rfl))
noncomputable def qK(fit:Mt->Bool)(bs:List Int)(k:Nat)(l:List Int):List Mt:=((qQ bs k).filter λr=>fit (l,r)).map λr=>(l,r)
noncomputable def xq(fit:Mt->Bool)(as bs:List Int)(z:Nat×Nat):List Mt:=(qQ as z.1).flatMap (qK fit bs z.2)
noncomputable def Cm(fit:Mt->Bool)(as bs:List Int):List Mt:=uO.flatMap (xq fit as bs)
theorem mem_matchOf:x∈qK fit bs k l↔x.1=l/\x.2.length=k/\Up bs x.2/\fit (l,x.2)=ag:=by
 unfold qK;rw[fM];constructor
 .intro DZ;refine za DZ λr hr Ff=>?_;subst Ff;obtain⟨h1,h2⟩:=List.mem_filter.mp hr;obtain⟨h3,h4⟩:=mem_rowsN.mp h1;exact zA rfl h3 h4 h2
 .intro Ez;exact zI Ez λh1 h2 h3 h4=>zf x.2 (List.mem_filter.mpr ⟨mem_rowsN.mpr ⟨h2,h3⟩,h4⟩) (by rw[<-h1])
theorem mem_bySz:x∈xq fit as bs z↔x.1.length=z.1/\Up as x.1/\x.2.length=z.2/\Up bs x.2/\fit x=ag:=by
 unfold xq;rw[gw];constructor
 .intro Fn;refine za Fn λl hl hx=>?_;obtain⟨rfl,h2⟩:=mem_matchOf.mp hx;obtain⟨h3,h4⟩:=mem_rowsN.mp hl;exact zu h3 h4 h2
 .intro Fy;exact jg Fy λh1 h2 h3=>zf x.1 (mem_rowsN.mpr ⟨h1,h2⟩) (mem_matchOf.mpr ⟨rfl,h3⟩)
noncomputable def th:Nat->List Int->Nat
 | 0,_=>0
 | _+1,[]=>0
 | n+1,x::xs=>(x.toNat+1)*100 ^ n+th n xs
def Sm(l:List Int):Prop:=l.length<=3/\∀p∈l,0<=p/\p<90
theorem qU(n):∀{l:List Int},(∀p∈l,0<=p/\p<90)->th n l<100 ^ n:=by
 induction n with
 | zero=>exact λ_=>ar _
 | succ n ih=>
  intro l h;cases l with
  | nil=>exact pg (by decide)
  | cons x xs=>
   have h1:=ih (l:=xs) λp hp=>h p (al _ hp);have h3:(x.toNat+1)*100 ^ n<=90*100 ^ n:=bI _ (y7 (h x aj));show (x.toNat+1)*100 ^ n+th n xs<100 ^ n*100
   lia
theorem zky(n):∀{l r:List Int},l.length<=n->r.length<=n->(∀p∈l,0<=p/\p<90)->(∀p∈r,0<=p/\p<90)->uq (l.map .int) (r.map .int)=ae (decide (th n l<th n r))/\(th n l=th n r->l=r):=by
 have pos:∀(x:Int) (xs:List Int) (n:Nat),0<th (n+1) (x::xs):=λx xs n=>aS (Nat.mul_pos (dG _) (pg (by decide))) (bN _ _)
 induction n with
 | zero=>
  intro l r h1 h2 _ _;rw[List.length_eq_zero_iff.mp (Nat.le_zero.mp h1),List.length_eq_zero_iff.mp (Nat.le_zero.mp h2)];exact⟨rfl,λ_=>rfl⟩
 | succ n ih=>
  intro l r h1 h2 s1 s2;cases l with
  | nil=>cases r with
   | nil=>exact⟨rfl,λ_=>rfl⟩
   | cons y ys=>
    have h3:=pos y ys n;refine⟨?_,λe=>absurd h3 (oU (bp e.symm))⟩;rw[H3 (show th (n+1) []<th (n+1) (y::ys) from h3)];exact zq5 ..
  | cons x xs=>cases r with
   | nil=>
    have h3:=pos x xs n;refine⟨?_,λe=>absurd h3 (oU (bp e))⟩;rw[H0 (show ¬th (n+1) (x::xs)<th (n+1) [] from dF _)];exact zq4 ..
   | cons y ys=>
    obtain⟨g1,g2⟩:=ih (l:=xs) (r:=ys) (dU h1) (dU h2) (λp hp=>s1 p (al _ hp)) λp hp=>s2 p (al _ hp);have a1:=qU n (l:=xs) λp hp=>s1 p (al _ hp);have a2:=qU n (l:=ys) λp hp=>s2 p (al _ hp);have b1:=(s1 x aj).1;have b2:=(s2 y aj).1;have key:th (n+1) (x::xs)<th (n+1) (y::ys)↔x<y\/x=y/\th n xs<th n ys:=(zbb (M:=100 ^ n) (x:=x.toNat+1) (y:=y.toNat+1) a1 a2).trans (or_congr (Nat.succ_lt_succ_iff.trans (toNat_lt b1 b2)) (and_congr ⟨λe=>zav b1 b2 (fN e),λe=>by rw[e]⟩ mK));refine⟨?_,λe=>?_⟩
    .simp only[aY,q9,zdA]
     by_cases he:x=y
     .subst he;rw[beq_self_eq_true,if_pos rfl,g1];exact congrArg ae (decide_eq_decide.mpr (key.trans ⟨λh=>(h.resolve_left (iP x)).2,λh=>.inr ⟨rfl,h⟩⟩).symm)
     .rw[beq_eq_false_iff_ne.mpr he,if_neg cT,zcq];exact congrArg ae (decide_eq_decide.mpr (key.trans ⟨λh=>h.resolve_right λh=>he h.1,.inl⟩).symm)
    .have e':=zaI (M:=100 ^ n) (x:=x.toNat+1) (y:=y.toNat+1) a1 a2 e;rw[zav b1 b2 (fN e'.1),g2 e'.2]
theorem zcd:∀(l r:List Int),aU (kh l) (kh r)=decide (l=r):=by
 intro l r;unfold kh;simp only[aU]
 induction l generalizing r with
 | nil=>cases r<;>simp[bP]
 | cons x xs ih=>
  cases r with
  | nil=>simp[bP]
  | cons y ys=>
   simp only[aY,bP,zdA,ih]
   by_cases h:x=y
   .subst h;simp
   .simp[h]
theorem zoO(hl:Sm l)(hr:Sm r):uc (kh l) (kh r)=ae (decide (th 3 l<th 3 r)):=by
 unfold kh;simp only[zem];exact(zky 3 hl.1 hr.1 hl.2 hr.2).1
theorem zf3(hl:Sm l)(hr:Sm r)(e:th 3 l=th 3 r):l=r:=(zky 3 hl.1 hr.1 hl.2 hr.2).2 e
noncomputable def sM(x:Mt):Nat:=(x.1.length+x.2.length)*1000000000000+th 3 x.1*1000000+th 3 x.2
def tN(x:Mt):Prop:=Sm x.1/\Sm x.2
theorem zzp(a b c):a*1000000000000+b*1000000+c=(a*100 ^ 3+b)*100 ^ 3+c:=by rw[Nat.add_mul (a*100 ^ 3) b,rG]
theorem zgv(x):sM x=((x.1.length+x.2.length)*100 ^ 3+th 3 x.1)*100 ^ 3+th 3 x.2:=zzp _ _ _
theorem zgw(hx:tN x)(hy:tN y)(e:sM x=sM y):x=y:=by
 have a1:=qU 3 hx.1.2;have a2:=qU 3 hx.2.2;have a3:=qU 3 hy.1.2;have a4:=qU 3 hy.2.2;rw[zgv,zgv] at e;have e1:=zaI a2 a4 e;have h1:=(zaI a1 a3 e1.1).2;have h2:=e1.2;exact mh (zf3 hx.1 hy.1 h1) (zf3 hx.2 hy.2 h2)
noncomputable def uj(x:Mt):Int:=(x.1.length:Int)+x.2.length
noncomputable def xz(x:Mt):eA:=.tuple [.int (uj x),.tuple [kh x.1,kh x.2]]
theorem zoN(hx:tN x)(hy:tN y):uq [kh x.1,kh x.2] [kh y.1,kh y.2]=ae (decide (th 3 x.1*1000000+th 3 x.2<th 3 y.1*1000000+th 3 y.2)):=by
 have a2:=qU 3 hx.2.2;have a4:=qU 3 hy.2.2;simp only[q9,zgl,zcd,decide_eq_true_eq]
 by_cases h1:x.1=y.1
 .rw[if_pos h1,h1]
  by_cases h2:x.2=y.2
  .rw[if_pos h2,h2,H0 (cW _)]
  .rw[if_neg h2,zoO hx.2 hy.2];exact congrArg ae (decide_eq_decide.mpr Nat.add_lt_add_iff_left.symm)
 .rw[if_neg h1,zoO hx.1 hy.1];exact congrArg ae (decide_eq_decide.mpr ((zbb (M:=1000000) a2 a4).trans ⟨λh=>h.resolve_right λh=>h1 (zf3 hx.1 hy.1 h.1),.inl⟩).symm)
theorem ztD(hx:tN x)(hy:tN y)(CL:x.1.length+x.2.length≠y.1.length+y.2.length):x.1.length+x.2.length<y.1.length+y.2.length↔sM x<sM y:=by
 have a1:=qU 3 hx.1.2;have a2:=qU 3 hx.2.2;have a3:=qU 3 hy.1.2;have a4:=qU 3 hy.2.2;rw[zgv,zgv,zbb a2 a4,zbb a1 a3];refine⟨λh=>.inl (.inl h),λh=>h.elim (λh=>h.resolve_right λh=>CL h.1) λh=>absurd (zaI a1 a3 h.1).1 CL⟩
theorem zhF(hx:tN x)(hy:tN y)(h:uj x=uj y->t=ae (decide (th 3 x.1*1000000+th 3 x.2<th 3 y.1*1000000+th 3 y.2))):(if (uj x==uj y)=ag then t else uc (.int (uj x)) (.int (uj y)))=ae (decide (sM x<sM y)):=by
 by_cases e:uj x=uj y
 .rw[e,beq_self_eq_true,if_pos rfl,h e];unfold sM;exact congrArg ae (decide_eq_decide.mpr (by rw[cJ,cJ (_*_),show x.1.length+x.2.length=y.1.length+y.2.length from rH e,Nat.add_lt_add_iff_left]))
 .rw[beq_eq_false_iff_ne.mpr e,if_neg (by decide)];unfold uj at e ⊢;simp only[zcq];refine congrArg ae (decide_eq_decide.mpr (rQ Int.ofNat_lt (ztD hx hy λh=>e (congrArg dD h))))
theorem zto(hx:tN x)(hy:tN y):uc (xz x) (xz y)=ae (decide (sM x<sM y)):=by
 unfold xz;rw[zem,q9,zdA];refine zhF hx hy λ_=>?_;simp only[q9,zgl,zem,zcq,aU,bP,iG]
 by_cases h:x=y
 .subst h;rw[if_pos (by simp[zcd]),H0 (cW _)]
 .have:¬((aU (kh x.1) (kh y.1)&&aU (kh x.2) (kh y.2))=ag):=by
   rw[zcd,zcd,bx,decide_eq_true_eq,decide_eq_true_eq];exact λe=>h (mh e.1 e.2)
  rw[if_neg this];exact zoN hx hy
section
variable{P:Hm}{X:Cx}{n:Nat}{Q:zt}{Z:XP}{U:su}
noncomputable def wu(s:Bool)(g:List zn):List Int:=(g.filter λm=>m.1==s).map (·.2)
structure va(g:List zn)(na nb:Nat):Prop where
 nodup:g.Nodup
 inn:∀m∈g,0<=m.2/\m.2<((if m.1 then nb else na:Nat):Int)
 few:g.length<=8
 small:na<=80/\nb<=80
theorem zpE(h:g.length<=8):(wu s g).length<=8:=by unfold wu;rw[am];exact ap (bL ..) h
theorem side_mem:p∈wu s g↔(s,p)∈g:=by
 unfold wu;rw[fM];constructor
 .intro Da;refine za Da λEf h CU=>?_;obtain⟨b,i⟩:=Ef;subst CU;obtain⟨h1,h2⟩:=List.mem_filter.mp h;have h2:b=s:=H7 h2;subst h2;exact h1
 .intro h;exact zf (s,p) (List.mem_filter.mpr ⟨h,on⟩) rfl
theorem zpH(h0:∀p∈ns,0<=p)(q:tO r ((srt du ns).map .int) Q U):xL r (ns.map .int) Q U:=by
 refine zia v6 (λ_=>rfl) du (λx hx y hy e=>by have:=h0 x hx;have:=h0 y hy;exact qb 0x100c28098080983b06c46 rfl e (by assumption) this) (.inr λx hx=>?_) (λx hx y hy=>?_) q
 .refine za (List.mem_map.mp hx) λi _ CP=>?_;subst CP;exact⟨i,rfl⟩
 .exact jh _ _ (.int _) (.int _) (aE _) (aE _) (congrArg ae (decide_eq_decide.mpr (toNat_lt (h0 x hx) (h0 y hy)).symm))
noncomputable def tC(s:Bool)(g:List zn):List Int:=srt du (wu s g)
theorem ups_mem:p∈tC s g↔(s,p)∈g:=(zR ..).mem_iff.trans side_mem
theorem zdL(h:g.length<=8):(tC s g).length<=8:=by unfold tC;rw[(zR ..).length_eq];exact zpE h
noncomputable def v8(es fs:List td)(span:Int)(g:List zn):List Mt:=srt sM (Cm (tW es fs span) (tC ai g) (tC ag g))
theorem zat(h:ps.length<=8)(k):(qQ ps k).length<=8 ^ k:=by
 induction k with
 | zero=>exact ar 1
 | succ k ih=>exact ap (zhh (c:=8) (λa=>ap (zce ps a) h) _) (by rw[oq];exact bI 8 ih)
noncomputable def xF(x:Mt):AV:=.tup [.int ((x.1.length:Int)+x.2.length),zx x]
theorem zdH(l:List Int):tD U (l.map .int) (l.map .int):=by
 induction l with
 | nil=>exact .nil
 | cons i l ih=>exact .cons (.int i) ih
theorem zb8(l:List Int):bf (l.map .int)=0:=by
 induction l with
 | nil=>rfl
 | cons i l ih=>exact(Nat.zero_max _).trans ih
theorem zjg(z):Rd U (xF z) (xz z):=.tup (.cons (.int _) (.cons (.tup (.cons (.tup (zdH _)) (.cons (.tup (zdH _)) .nil))) .nil))
theorem zjf(z:Mt):(xz z).depth<=100:=by
 show fF 0 (fF (fF (bf (z.1.map .int)+1) (fF (bf (z.2.map .int)+1) 0)+1) 0)+1<=100;rw[zb8,zb8];decide
theorem zkI(hx:tN x)(hy:tN y):uE U (xF x) (xF y) (decide (sM x<sM y)):=jh _ _ (zjg x) (zjg y) (zjf x) (zjf y) (zto hx hy)
theorem ziB(hg:va g na nb)(h:x∈Cm fit (tC ai g) (tC ag g)):tN x/\tA x.1 na/\tA x.2 nb/\fk x.1.length x.2.length=1/\fit x=ag:=by
 refine za (List.mem_flatMap.mp h) λz hz hx=>qq (mem_bySz.mp hx) λh1 u1 h2 u2 h3=>?_;have FU:∀z∈uO,z.1<=3/\z.2<=3/\fk z.1 z.2=1:=by decide
 refine jg (FU z hz) λz1 z2 z3=>?_;have i1:∀p∈x.1,0<=p/\p<(na:Int):=λp hp=>hg.inn _ (ups_mem.mp (u1.2 p hp));have i2:∀p∈x.2,0<=p/\p<(nb:Int):=λp hp=>hg.inn _ (ups_mem.mp (u2.2 p hp));have:=hg.small;exact ju (zu ⟨zxD h1 z1,λp hp=>by have:=i1 p hp;exact y99 (by assumption) this⟩ (zxD h2 z2) (λp hp=>by have:=i2 p hp;exact zzF (by assumption) this)) ⟨u1.1,i1⟩ ⟨u2.1,i2⟩ (zDU h1 h2 z3) h3
theorem zvK:∃u:AV->Mt,∀x,u (zx x)=x:=⟨λv=>v.tupE ([],[]) λl=>(((l.getD 0 .none).tupE [] id).map v6,((l.getD 1 .none).tupE [] id).map v6),λx=>by
   show ((x.1.map AV.int).map v6,(x.2.map AV.int).map v6)=x;rw[aL,aL];have:v6∘AV.int=id:=rfl;rw[this,eV,eV]⟩
theorem zmD(hc:∀{m:Mt} {Q:zt} {Z:XP},Q (.tup [.int ((m.1.length:Int)+m.2.length),zx m]) U->sy X f ⟨n+1,hb⟩ [zx m] Q Z U)(hd:n<580)(h:∀x∈xs,tN x)(q:tO r ((srt sM xs).map zx) Q U):yg X f r ⟨n,hb⟩ (xs.map zx) Q U:=by
 refine zQ zvK λu hu=>?_;unfold yg;refine jh (λv=>.tup [.int (((u v).1.length:Int)+(u v).2.length),v]) (λv=>sM (u v)) (by lia) (λv hv=>?_) (λv hv=>(j3 _ _ rfl)) (λv hv w hw=>?_) (λys h1 h2=>?_)
 .refine za (List.mem_map.mp hv) λx hx DB=>?_;subst DB;exact hc ⟨by dsimp only;rw[hu],rfl⟩
 .refine za (List.mem_map.mp hv) λx hx Fu=>?_;subst Fu;refine za (List.mem_map.mp hw) λy hy HU=>?_;subst HU;simp only[hu];exact zkI (h x hx) (h y hy)
 .obtain⟨p1,p2⟩:=zgy hu h1;rw[p2,zcH (λx hx y hy=>zgw (h x hx) (h y hy)) p1 (List.pairwise_map.mpr h2)];exact q
theorem zeU(G:Gd X (hK P))(hd:n<580)(h:∀x∈xs,tN x)(q:tO r ((srt sM xs).map zx) Q U):yg X 137 r ⟨n,hb⟩ (xs.map zx) Q U:=zmD (λq=>ziE G (ziy hd) q) hd h q
noncomputable def wg(z:Nat×Nat):AV:=.tup [.int (z.1:Nat),.int (z.2:Nat)]
theorem za3{V β:Type}(f:V->List β)(xs:List V)(acc:List β):xs.foldl (λb x=>b++f x) acc=acc++xs.flatMap f:=by
 induction xs generalizing acc with
 | nil=>exact(bz _).symm
 | cons x xs ih=>rw[bV,ih,cM,aR]
noncomputable def vS(pb pk:aH)(span:Int)(g:List zn)(p:aH)(u v w:Option AV):Loc:=[ae (.ref pb),ae (.ref pk),ae (.int span),ae (uB g),ae (.lst ((tC ai g).map .int)),ae (.lst ((tC ag g).map .int)),ae (.ref p),u,v,w]
def Wi(U:su)(p:aH)(L:(Nat->Option AV)->Loc)(N c:Nat){V:Type}(W xs:List V)(b:List Mt)(l:Loc)(U':su):Prop:=(∃Ua,l=L Ua)/\U'=U.set p (.list (b.map zx))/\b.length+c*xs.length<=N/\∀x∈xs,x∈W
section
variable{pb pk p:aH}{es fs:List td}{span:Int}{g:List zn}{I:su->Prop}{K:Loc->su->Prop}{S:je}{d N:Nat}{z:Nat×Nat}{lr:List Int}{l:Loc}{U':su}
theorem wi3(G:Gd X (hK P))(hd:d<571)(hb:U pb=ae (.list (es.map zD)))(hk:U pk=ae (.list (fs.map zD)))(he:sO es)(hf:sO fs)(hg:va g es.length fs.length)(hp:U p=af)(hI:∀U,I U)(hN:N<=100000)(hz:z∈uO)(IK:lr∈qQ (tC ai g) z.1)
  (h:Wi U p (λUa=>vS pb pk span g p (ae (wg z)) (ae (kR lr)) (Ua 0)) N 1 (qQ (tC ag g) z.2) (rr::ws) a l U')(hK:∀l' U',Wi U p (λUa=>vS pb pk span g p (ae (wg z)) (ae (kR lr)) (Ua 0)) N 1 (qQ (tC ag g) z.2) ws (a++if tW es fs span (lr,rr) then [(lr,rr)] else []) l' U'->K l' U') :
  ∃l',j2 (.one 9) (kR rr) l=ae l'/\Cd X ⟨d,ai⟩ l' (G0 I K S) G1 U':=by
 refine zI h λhl hs CF hw=>zQ hl λUa el=>?_;have hw:=List.forall_mem_cons.mp hw;clear h;subst el hs;rw[au] at CF;have FU:∀z∈uO,z.1<=3/\z.2<=3/\fk z.1 z.2=1:=by decide
 refine jg (FU z hz) λz1 z2 z3=>jC (mem_rowsN.mp IK) λm1 m2=>jC (mem_rowsN.mp hw.1) λm3 m4=>zf _ rfl (zqw G (aw hd (by decide)) (m:=(lr,rr)) (zF hp _ _ hb) (zF hp _ _ hk) he hf (by dsimp only;exact zg 0x90e419c0c61118401192316046 rfl z3 m1 m3) (by dsimp only;exact zg 0x2c39066e1184461004658c0658806 rfl z1 z2 m1 m3) ⟨m2.1,λp hp=>hg.inn _ (ups_mem.mp (m2.2 p hp))⟩ ⟨m4.1,λp hp=>hg.inn _ (ups_mem.mp (m4.2 p hp))⟩ ?_);cases Fg:tW es fs span (lr,rr) with
 | true=>
  rw[Fg,if_pos rfl] at hK;exact zo (su.wA ..) (zo (su.wA ..) (zN (by rw[am];exact zc 0x3d0902490500148a800003605006186a090406 rfl hN CF) ⟨hI _,hK _ _ (zA ⟨λ_=>_,rfl⟩ (by rw[aB];exact zaO) (by rw[aq,aG];exact zc 0x2080000d920a5002486800003605006 rfl CF) hw.2)⟩))
 | false=>
  rw[Fg,if_neg cT,bz] at hK;exact⟨hI _,hK _ _ (zA ⟨λ_=>_,rfl⟩ rfl (zv2 CF) hw.2)⟩
theorem zmm(h:bs.length<=8)(k):(qK fit bs k lr).length<=8 ^ k:=by
 unfold qK;rw[am];exact ap (bL ..) (zat h k)
theorem zju:(qQ bs k).flatMap (λr=>if fit (lr,r) then [(lr,r)] else [])=qK fit bs k lr:=by
 unfold qK;generalize qQ bs k=rs
 induction rs with
 | nil=>rfl
 | cons r rs ih=>
  rw[cM,ls,ih];cases fit (lr,r)<;>rfl
theorem wi2(G:Gd X (hK P))(hd:d<571)(hb:U pb=ae (.list (es.map zD)))(hk:U pk=ae (.list (fs.map zD)))(he:sO es)(hf:sO fs)(hg:va g es.length fs.length)(hp:U p=af)(hI:∀U,I U)(hN:N<=90000)(hz:z∈uO)
  (h:Wi U p (λUa=>vS pb pk span g p (ae (wg z)) (Ua 0) (Ua 1)) N (8 ^ z.2) (qQ (tC ai g) z.1) (lr::ys) c l U')(hK:∀l' U',Wi U p (λUa=>vS pb pk span g p (ae (wg z)) (Ua 0) (Ua 1)) N (8 ^ z.2) (qQ (tC ai g) z.1) ys (c++qK (tW es fs span) (tC ag g) z.2 lr) l' U'->K l' U') :
  ∃l',j2 (.one 8) (kR lr) l=ae l'/\C1 X ⟨d,ai⟩ l' (G0 I K S) G1 U':=by
 refine zI h λhl hs CF hy=>zQ hl λUa el=>?_;have hy:=List.forall_mem_cons.mp hy;clear h;subst el;rw[au,Nat.mul_succ] at CF;have FU:∀z∈uO,z.2<=3/\8 ^ z.2<=512:=by decide
 have l2:=zdL (s:=ag) hg.few;have r2:=zat l2 z.2;refine zf _ rfl (zeN G (aw hd (by decide)) l2 (FU z hz).1 (qD (Wi U p (λUa=>vS pb pk span g p (ae (wg z)) (ae (kR lr)) (Ua 0)) (c.length+8 ^ z.2) 1 (qQ (tC ag g) z.2)) (λa r=>a++if tW es fs span (lr,r) then [(lr,r)] else []) (λrr ws a l U' K' S_ h Ly=>wi3 G hd hb hk he hf hg hp (λ_=>trivial) (zv4 hN CF) hz hy.1 h Ly) (b:=c) (λl U' h=>?_) (zA ⟨λ_=>_,rfl⟩ hs (by rw[Nat.one_mul];exact cu r2 _) (λr hr=>hr))));refine zI h λhl hs _ _=>zQ hl λUa el=>?_;rw[za3,zju] at hs;have hm:=zmm (fit:=tW es fs span) (lr:=lr) l2 z.2;exact⟨hI _,hK _ _ (zA ⟨λi=>[_,_].getD i af,el⟩ hs (by rw[aq];exact zy 0xc4105280204061905405006 rfl CF hm) hy.2)⟩
theorem wi1(G:Gd X (hK P))(hd:d<571)(hb:U pb=ae (.list (es.map zD)))(hk:U pk=ae (.list (fs.map zD)))(he:sO es)(hf:sO fs)(hg:va g es.length fs.length)(hp:U p=af)(hI:∀U,I U)
  (h:Wi U p (λUa=>vS pb pk span g p (Ua 0) (Ua 1) (Ua 2)) 20480 4096 uO (z::xs) b l U')(hK:∀l' U',Wi U p (λUa=>vS pb pk span g p (Ua 0) (Ua 1) (Ua 2)) 20480 4096 uO xs (b++xq (tW es fs span) (tC ai g) (tC ag g) z) l' U'->K l' U') :
  ∃l',j2 (.one 7) (wg z) l=ae l'/\C4 X ⟨d,ai⟩ l' (G0 I K S) G1 U':=by
 refine zI h λhl hs CF hx=>zQ hl λUa el=>?_;have hx:=List.forall_mem_cons.mp hx;clear h;subst el;rw[au] at CF;have FU:∀z∈uO,z.1<=3/\8 ^ z.1*8 ^ z.2<=4096:=by decide
 have l1:=zdL (s:=ai) hg.few;have r1:=ap (bI (8 ^ z.2) (zat l1 z.1)) (FU z hx.1).2;refine zf _ rfl (zeN G (aw hd (by decide)) l1 (FU z hx.1).1 (qD (Wi U p (λUa=>vS pb pk span g p (ae (wg z)) (Ua 0) (Ua 1)) (b.length+4096) (8 ^ z.2) (qQ (tC ai g) z.1)) (λc r=>c++qK (tW es fs span) (tC ag g) z.2 r) (λlr ys c l U' K' S_ h Ly=>wi2 G hd hb hk he hf hg hp (λ_=>trivial) (zv0 CF) hx.1 h Ly) (b:=b) (λl U' h=>?_) (zA ⟨λi=>[_,_].getD i af,rfl⟩ hs (by rw[ot];exact cu r1 _) (λr hr=>hr))));refine zI h λhl hs GT _=>zQ hl λUa el=>?_;rw[za3] at hs GT;exact⟨hI _,hK _ _ (zA ⟨λi=>[_,_,_].getD i af,el⟩ hs (by have GT:(b++xq (tW es fs span) (tC ai g) (tC ag g) z).length<=b.length+4096:=ap (bN _ _) GT;exact zc 0xa001208080058140008004854000c0a0012486802001615006 rfl CF GT) hx.2)⟩
end
theorem znf(G:Gd X (hK P))(hd:n<570)(hb:U pb=ae (.list (es.map zD)))(hk:U pk=ae (.list (fs.map zD)))(he:sO es)(hf:sO fs)(hg:va g es.length fs.length)
  (q:Q (.lst ((v8 es fs span g).map zx)) U):sy X 142 ⟨n,ai⟩ [.ref pb,.ref pk,.int span,uB g] Q Z U:=by
 refine zox G (aw hd (by decide)) λL=>?_;have lg:=hg.few;have e1:∀s,(g.filter λm=>m.1==s).map (λm:zn=>AV.int m.2)=(wu s g).map .int:=λs=>by unfold wu;rw[aL];rfl
 refine jm (λm:zn=>m.1==ai) (λm=>.int m.2) (λ_=>rfl) (λ_ _=>rfl) (λm hm R q=>?_) (λm hm _ R q=>q) trivial (zt5 lg) ?_
 .obtain⟨b,i⟩:=m;cases b<;>exact q
 rw[e1];refine zpH (λp hp=>(hg.inn _ (side_mem.mp hp)).1) (jm (λm:zn=>m.1==ag) (λm=>.int m.2) (λ_=>rfl) (λ_ _=>rfl) (λm hm R q=>?_) (λm hm _ R q=>q) trivial (zt5 lg) ?_)
 .obtain⟨b,i⟩:=m;cases b<;>exact q
 rw[e1];refine zpH (λp hp=>(hg.inn _ (side_mem.mp hp)).1) ?_;intro p hp;change vm _ _ _ _ _ (uO.map wg) _ _;refine qD (Wi U p (λUa=>vS pb pk span g p (Ua 0) (Ua 1) (Ua 2)) 20480 4096 uO) (λb z=>b++xq (tW es fs span) (tC ai g) (tC ag g) z) (λz xs b l U' K S_ h hK=>wi1 (G.push L) (bH hd) hb hk he hf hg hp (λ_=>trivial) h hK) (b:=[]) (λl U' h=>?_) (zA ⟨λi=>[_,_,_].getD i af,rfl⟩ rfl (by decide) (λz hz=>hz));refine zI h λhl hs _ _=>zQ hl λUa el=>?_;rw[za3,dZ] at hs;subst el hs;clear h;exact ze (zB (su.wA ..)) (zeU (G.push L) (zw8 hd) (λx hx=>(ziB hg hx).1) (sD.drop (zF hp) q))
end
noncomputable def v9(ms:List Mt)(r:List zn):List (List zn):=ms.filterMap (qF r)
noncomputable def jT(ms:List Mt)(r:List zn):List (List zn):=match r with|[]=>[]|_::t=>t::v9 ms r
noncomputable def uk(row nx:List (List zn)):List (List zn):=nx.foldl (λw b=>if b∈w then w else w++[b]) row
noncomputable def zS(ms:List Mt)(g:List zn):Nat->List (List zn)
 | 0=>[g]
 | k+1=>match (zS ms g k)[k]? with|some r=>uk (zS ms g k) (jT ms r)|none=>zS ms g k
theorem zoG(h:qF r m=ae b):b.Sublist r.tail:=by
 unfold qF at h;split at h
 .exact absurd (d6 h) (aA _)
 .rename_i x t
  split at h
  .rename_i hc
   obtain rfl:=Hz h;rw[ls];have:(!decide (x∈zr m))=ai:=by simp[hc.1]
   rw[this];simp only[aT,if_false,List.tail_cons];exact mW
  .exact absurd (d6 h) (aA _)
theorem zcX(h:b∈jT ms r):b.Sublist r.tail:=by
 unfold jT at h;split at h
 .cases h
 .rename_i x t
  rcases List.mem_cons.mp h with rfl|h
  .exact ov _
  .exact za (List.mem_filterMap.mp h) λm _ hm=>zoG hm
theorem qG(h:b∈jT ms r):b.length<r.length:=by
 have h1:=(zcX h).length_le;cases r with
 | nil=>cases h
 | cons x t=>simp at h1 ⊢;exact zb 0x24344828008006 rfl h1
noncomputable def xI:List zn->List (List zn)
 | []=>[[]]
 | x::t=>xI t++(xI t).map (x::·)
theorem zpO(l):(xI l).length=2 ^ l.length:=by
 induction l with
 | nil=>rfl
 | cons x t ih=>show (xI t++(xI t).map (x::·)).length=2 ^ (t.length+1);rw[aq,am,ih,oq,mB]
theorem zo1(h:b.Sublist l):b∈xI l:=by
 induction h with
 | slnil=>exact List.mem_singleton.mpr rfl
 | cons a h ih=>exact aW _ ih
 | cons_cons a h ih=>exact aJ _ (List.mem_map.mpr (zf _ ih rfl))
theorem zbi{V:Type}[DecidableEq V]{l:List V}:∀{u:List V},l.Nodup->(∀x∈l,x∈u)->l.length<=u.length:=by
 induction l with
 | nil=>exact λ_ _=>aE _
 | cons a l ih=>
  intro u hn hs;have ha:=hs a aj;obtain⟨ET,DL⟩:=List.nodup_cons.mp hn;have:=ih (u:=u.erase a) DL λx hx=>(gG λe:x=a=>ET (by rw[<-e];exact hx)).mpr (hs x (al _ hx));rw[dJ ha] at this;have h0:0<u.length:=fY ha;simp only[au];exact zb 0x1482800a51401921a8006 rfl this h0
theorem zqD(nx):∀(row:List (List zn)),∃ex,uk row nx=row++ex:=by
 induction nx with
 | nil=>exact λrow=>⟨[],(bz _).symm⟩
 | cons b nx ih=>
  intro row;unfold uk;rw[bV];split
  .exact ih row
  .obtain⟨ex,h⟩:=ih (row++[b]);exact⟨b::ex,by unfold uk at h;rw[h,aR];rfl⟩
theorem ziS(nx):∀(row:List (List zn)),row.Nodup->(uk row nx).Nodup:=by
 induction nx with
 | nil=>exact λrow h=>h
 | cons b nx ih=>
  intro row h;unfold uk;rw[bV];split
  .exact ih row h
  .rename_i hb
   refine ih (row++[b]) ?_;rw[fU];exact zu h (List.nodup_cons.mpr ⟨aZ,.nil⟩) (λx hx y hy e=>hb (by simp at hy;rw[<-hy,<-e];exact hx))
theorem zhl(nx):∀(row:List (List zn)),b∈uk row nx↔b∈row\/b∈nx:=by
 induction nx with
 | nil=>exact λrow=>⟨.inl,λh=>h.resolve_right aZ⟩
 | cons c nx ih=>
  intro row;unfold uk;rw[bV];split
  .rename_i hc
   have:=ih row;unfold uk at this;rw[this,bR];exact⟨λh=>h.elim .inl λh=>.inr (.inr h),λh=>h.elim .inl λh=>h.elim (λe=>.inl (e▸hc)) .inr⟩
  .have:=ih (row++[c]);unfold uk at this;rw[this,bM,bK,bR];exact⟨λh=>h.elim (λh=>h.elim .inl λh=>.inr (.inl h)) λh=>.inr (.inr h),λh=>h.elim (λh=>.inl (.inl h)) λh=>h.elim (λh=>.inl (.inr h)) .inr⟩
section
variable{ms:List Mt}{g:List zn}
theorem zaN(h:(zS ms g k)[k]? = ae r):zS ms g (k+1)=uk (zS ms g k) (jT ms r):=by
 show (match (zS ms g k)[k]? with|some r=>uk (zS ms g k) (jT ms r)|none=>zS ms g k)=_;rw[h]
theorem zpt(k j):∃ex,zS ms g (k+j)=zS ms g k++ex:=by
 induction j with
 | zero=>exact⟨[],(bz _).symm⟩
 | succ j ih=>
  refine zQ ih λex h=>?_;show ∃ex,(match (zS ms g (k+j))[k+j]? with|some r=>uk (zS ms g (k+j)) (jT ms r)|none=>zS ms g (k+j))=_;cases (zS ms g (k+j))[k+j]? with
  | some r=>exact zQ (zqD (jT ms r) (zS ms g (k+j))) λPN h'=>⟨ex++PN,h'.trans (by rw[h,aR])⟩
  | none=>exact⟨ex,h⟩
theorem zcD(h:k<=n):∃ex,zS ms g n=zS ms g k++ex:=by
 obtain⟨j,rfl⟩:=Nat.exists_eq_add_of_le h;exact zpt k j
theorem zbl(k):(zS ms g k).Nodup:=by
 induction k with
 | zero=>exact List.nodup_cons.mpr ⟨aZ,.nil⟩
 | succ k ih=>
  show (match (zS ms g k)[k]? with|some r=>uk (zS ms g k) (jT ms r)|none=>zS ms g k).Nodup;cases (zS ms g k)[k]? with
  | some r=>exact ziS _ _ ih
  | none=>exact ih
theorem zas(k):∀r∈zS ms g k,r.Sublist g:=by
 induction k with
 | zero=>intro r h;have:r=g:=List.mem_singleton.mp h;subst this;exact ov _
 | succ k ih=>
  intro r h;have h:r∈(match (zS ms g k)[k]? with|some r=>uk (zS ms g k) (jT ms r)|none=>zS ms g k):=h;split at h
  .rename_i r' En
   rcases(zhl _ _).mp h with h|h
   .exact ih r h
   .exact((zcX h).trans (ow _)).trans (ih r' (bX En))
  .exact ih r h
theorem zla{w:List (List zn)}(hn:w.Nodup)(hs:∀r∈w,r.Sublist g)(hg:g.length<=8):w.length<=256:=by
 refine ap (zbi hn λx hx=>zo1 (hs x hx)) ?_;rw[zpO];exact ap (mG (by decide) hg) (by decide)
def tE(ms:List Mt)(g:List zn)(k:Nat):Prop:=k<=(zS ms g k).length/\∀j,j<k->j<(zS ms g j).length
theorem tE.zero:tE ms g 0:=⟨aE _,λj h=>absurd h (dF j)⟩
theorem tE.succ(h:tE ms g k)(hk:k<(zS ms g k).length):tE ms g (k+1):=by
 refine⟨?_,λj hj=>?_⟩
 .obtain⟨ex,e⟩:=zcD (ms:=ms) (g:=g) (cG k);rw[e,aq];exact zc 0x20d120a002905006 rfl hk
 .rcases o7 j k with h1|h1
  .exact h.2 j h1
  .have:j=k:=by exact zb 0x402004064868905006 rfl hj h1
   subst this;exact hk
def End(ms:List Mt)(g:List zn)(n:Nat):Prop:=tE ms g n/\(zS ms g n).length<=n
theorem End.closed(h:End ms g n)(hr:r∈zS ms g n)(hb:b∈jT ms r):b∈zS ms g n:=by
 obtain⟨j,hj⟩:=List.mem_iff_getElem?.mp hr;have hl:j<(zS ms g n).length:=(List.getElem?_eq_some_iff.mp hj).1;have Nq:j<n:=aS hl h.2;have RH:=h.1.2 j Nq;obtain⟨ex,e⟩:=zcD (ms:=ms) (g:=g) (cX Nq);have Mf:(zS ms g j)[j]? = ae r:=by rw[e,bE RH] at hj;exact hj
 obtain⟨PN,e'⟩:=zcD (ms:=ms) (g:=g) (show j+1<=n from Nq);rw[e'];refine aW _ ?_;rw[zaN Mf];exact(zhl _ _).mpr (.inr hb)
end
def tL(i:Int)(l:List Int):Prop:=i∈l/\∀b∈l,i<=b
theorem tL.vK(h:tL i l)(h':tL j l):i=j:=by
 have:=h.2 j h'.1;have:=h'.2 i h.1;exact qb 0x4030042608026 rfl (by assumption) this
theorem zi1(l):∀(a:Int),tL (l.foldl fk a) (a::l):=by
 induction l with
 | nil=>exact λa=>⟨aj,λb hb=>(List.mem_singleton.mp hb)▸mH _⟩
 | cons x l ih=>
  intro a;have h:=ih (fk a x);have h0:l.foldl fk (fk a x)<=fk a x:=h.2 _ aj;refine⟨?_,List.forall_mem_cons.mpr ⟨zFd h0,List.forall_mem_cons.mpr ⟨zFe h0,λb hb=>h.2 b (al _ hb)⟩⟩⟩
  rcases List.mem_cons.mp h.1 with e|hm
  .rw[bV,e]
   rcases rU a x with q|q
   .rw[gI q];exact aj
   .rw[gj q];exact al _ aj
  .exact al _ (al _ hm)
noncomputable def v5(ms:List Mt):Nat->List zn->Int
 | 0,_=>0
 | n+1,[]=>0
 | n+1,x::t=>((v9 ms (x::t)).map (v5 ms n)).foldl fk (1+v5 ms n t)
theorem zsp(ms)(n)(x)(t):v5 ms (n+1) (x::t)=((v9 ms (x::t)).map (v5 ms n)).foldl fk (1+v5 ms n t):=rfl
theorem ztp(ms)(n):∀(m:Nat) (r:List zn),r.length<=n->r.length<=m->v5 ms n r=v5 ms m r:=by
 induction n with
 | zero=>
  intro m r h _;rw[cz (Nat.le_zero.mp h)];cases m<;>rfl
 | succ n ih=>
  intro m r h1 h2;cases r with
  | nil=>cases m<;>rfl
  | cons x t=>
   cases m with
   | zero=>exact absurd h2 (mo _)
   | succ m=>
    have h1:t.length+1<=n+1:=h1;have h2:t.length+1<=m+1:=h2;have e:(v9 ms (x::t)).map (v5 ms n)=(v9 ms (x::t)).map (v5 ms m):=cw λb hb=>by
     have h:b.length<t.length+1:=qG (ms:=ms) (r:=x::t) (b:=b) (al _ hb);exact ih m b (zr1 h1 h) (zr1 h2 h)
    rw[zsp,zsp,e,ih m t (zrV h1) (zrV h2)]
structure Lv(ms:List Mt)(lv:List zn->Int):Prop where
 nil:lv []=0
 cons:∀x t,tL (lv (x::t)) ((1+lv t)::(v9 ms (x::t)).map lv)
noncomputable def ug(ms:List Mt)(r:List zn):Int:=v5 ms r.length r
theorem zvi(ms):Lv ms (ug ms):=by
 refine⟨rfl,λx t=>?_⟩;have e:(v9 ms (x::t)).map (ug ms)=(v9 ms (x::t)).map (v5 ms t.length):=by
  refine cw λb hb=>ztp ms _ _ b (ar _) ?_;have:=qG (ms:=ms) (r:=x::t) (b:=b) (al _ hb);simp at this;exact zud this
 rw[e];exact zi1 _ _
theorem zdK(ms)(r):(tk ms r).map (·.2)=v9 ms r:=by
 unfold tk v9;rw[List.map_filterMap]
 congr 1;funext m
 cases qF r m<;>rfl
theorem zj5:(tk ms r).length<=ms.length:=List.length_filterMap_le _ _
section
variable{kvs:sP}{k k':List zn}{v:AV}
theorem sP.at_some(h:k∈kvs.map (·.1)):(kvs.at k).isSome=ag:=by
 unfold sP.at;rw[Option.isSome_map,List.find?_isSome];refine za (List.mem_map.mp h) λx hx D6=>?_;subst D6;exact zf x hx (by simp)
theorem sP.w0(h:k∉kvs.map (·.1)):kvs.at k=af:=by
 unfold sP.at;rw[Option.map_eq_none_iff,List.find?_eq_none];intro x hx e;exact h (List.mem_map.mpr (zf x hx (by simpa using e)))
theorem sP.vA:(kvs.at k).isSome=decide (k∈kvs.map (·.1)):=by
 by_cases h:k∈kvs.map (·.1)
 .rw[sP.at_some h,H3 h]
 .rw[sP.w0 h,H0 h];rfl
theorem sP.vB(h:k∉kvs.map (·.1)):(kvs.put k v).map (·.1)=kvs.map (·.1)++[k]:=by
 unfold sP.put;rw[sP.w0 h];simp
theorem sP.vC(h:k∈kvs.map (·.1)):(kvs.put k v).map (·.1)=kvs.map (·.1):=by
 unfold sP.put;rw[if_pos (sP.at_some h),aL];apply cw;intro x _;simp only[Function.comp];split<;>rfl
theorem sP.wX:(kvs.put k v).at k'=if k'=k then ae v else kvs.at k':=by
 unfold sP.put;split
 .rename_i hs
  induction kvs with
  | nil=>simp[sP.at] at hs
  | cons x kvs ih=>
   unfold sP.at at hs ih ⊢;rw[aY,cg,cg];rw[cg] at hs
   by_cases hx:x.1=k
   .rw[if_pos hx]
    by_cases hk:k'=k
    .rw[if_pos hk];simp[hx,hk]
    .rw[if_neg hk];have h1:decide (x.1=k')=ai:=H0 λe=>hk (e.symm.trans hx);simp only[h1];clear hs ih
     induction kvs with
     | nil=>rfl
     | cons y kvs ih2=>
      rw[aY,cg,cg]
      by_cases hy:y.1=k
      .rw[if_pos hy];have h2:decide (y.1=k')=ai:=H0 λe=>hk (e.symm.trans hy);simp only[h2];exact ih2
      .rw[if_neg hy]
       by_cases E4:y.1=k'
       .simp[E4]
       .simp only[H0 E4];exact ih2
   .rw[if_neg hx]
    by_cases hx':x.1=k'
    .have hk:¬k'=k:=λe=>hx (hx'.trans e);rw[if_neg hk];simp[hx']
    .have h2:decide (x.1=k)=ai:=H0 hx;simp only[h2] at hs;simp only[H0 hx'];exact ih hs
 .rename_i hs
  unfold sP.at at hs ⊢;rw[List.find?_append]
  by_cases hk:k'=k
  .rw[if_pos hk];have:(kvs.find? λx=>decide (x.1=k'))=af:=by
    rw[hk];cases hf:kvs.find? λx=>decide (x.1=k) with
    | none=>rfl
    | some y=>rw[hf] at hs;exact absurd rfl hs
   rw[this];simp[hk]
  .rw[if_neg hk];have h1:decide (k=k')=ai:=H0 λe=>hk e.symm;simp[cg,h1]
end
noncomputable abbrev xi(w:List (List zn)):sP:=w.map λr=>(r,.bool ag)
theorem zhT(w):(xi w).map (·.1)=w:=by rw[aL];simp[Function.comp_def]
theorem zrd(h:b∉w):(xi w).put b (.bool ag)=xi (w++[b]):=by
 unfold sP.put;rw[sP.w0 (by rw[zhT];exact h)];simp[xi]
theorem zuF(hs:(done++r::CC).Pairwise λx y=>x.length<=y.length)(hb:b∈done++r::CC)(hn:b∈jT ms r):b∈done:=by
 have Cu:=qG hn
 rcases List.mem_append.mp hb with h|h
 .exact h
 .have h2:=(List.pairwise_append.mp hs).2.1
  rcases List.mem_cons.mp h with rfl|h
  .exact absurd Cu (cW _)
  .exact absurd ((List.pairwise_cons.mp h2).1 b h) (Nat.not_le.mpr Cu)
section
variable{P:Hm}{X:Cx}{n:Nat}{Q:zt}{Z:XP}{U:su}
def Sub(U U':su):Prop:=∀a o,U a=ae o->U' a=ae o
theorem Sub.put(e:Sub U U')(h:U p=af):Sub U (U'.set p o):=λa o' q=>by
 rw[su.wB _ _ (by rintro rfl;rw[h] at q;exact nos q)];exact e a o' q
theorem Sub.none(h:Sub U U')(e:U' p=af):U p=af:=by
 cases q:U p with
 | none=>rfl
 | some o=>rw[h p o q] at e;exact absurd e (aA _)
theorem zh7(r:List zn):∀x∈r.map z7,sN 1 x:=λx hx=>by refine za (List.mem_map.mp hx) λm _ CU=>?_;subst CU;exact zgr m
theorem zgz{r:List zn}{R:Bool->su->Prop}(q:R r.isEmpty U):tV (zE r) (.tup []) R U:=zkA (zh7 r) (by decide) (by rw[oV];exact q)
structure Reach(ms:List Mt)(g:List zn)(W:List (List zn)):Prop where
 self:g∈W
 closed:∀r∈W,∀b∈jT ms r,b∈W
 sub:∀r∈W,r.Sublist g
theorem zib(q:∀ys:List (List zn),ys.Perm xs->ys.Pairwise (λx y=>x.length<=y.length)->tO r (ys.map zE) Q U):A0 r (xs.map zE) Q U:=by
 have un:∃u:AV->List zn,∀x,u (zE x)=x:=⟨λv=>v.tupE [] λl=>l.map λv=>v.tupE (ai,0) λl=>(ch ((l.getD 0 .none).strE 0 id) 1,v6 (l.getD 1 .none)),λx=>by
   show (x.map z7).map _=x;rw[aL];refine(cw λm _=>?_).trans (eV x);obtain⟨b,i⟩:=m;cases b<;>rfl⟩
 obtain⟨u,hu⟩:=un;unfold A0;refine⟨λv hv=>by refine za (List.mem_map.mp hv) λx _ Di=>?_;subst Di;exact⟨_,rfl⟩,λys h1 h2=>?_⟩;obtain⟨p1,p2⟩:=zgy hu h1;rw[p2] at h2 ⊢;refine q _ p1 ?_;rw[fW] at h2;refine h2.imp λ{a b} h=>?_;have e:∀x:List zn,xA (zE x)=x.length:=λx=>am ..;rw[e,e] at h;exact h
noncomputable def y5(g:List zn)(ms:List Mt)(rm rr:aH)(k:Int)(a b c d e:Option AV):Loc:=[ae (uB g),ae (.lst (ms.map zx)),ae (zE g),ae (.ref rm),ae (.ref rr),ae (.int k),a,b,c,d,e]
structure yf(U:su)(g:List zn)(ms:List Mt)(rm rr:aH)(k:Int)(a b:Option AV)(xs w:List (List zn))(l:Loc)(U':su):Prop where
 e:Sub U U'
 lr:U' rr=ae (.list (w.map zE))
 lm:U' rm=ae (.tdict (xi w))
 hl:∃c,l=y5 g ms rm rr k a b c af af
 wn:w.Nodup
 ws:∀r∈w,r.Sublist g
 hx:∀b∈xs,b.Sublist g
theorem zqC{g:List zn}(FM:g.length<=8)(hm:U rm=af)(hr:U rr=af)(hn:rr≠rm){I:su->Prop}{K:Loc->su->Prop}(hI:∀U,I U)
  (h:yf U g ms rm rr k a b (x::xs) w l U')(hK:∀l' U',yf U g ms rm rr k a b xs (if x∈w then w else w++[x]) l' U'->K l' U'):∃l',j2 (.one 8) (zE x) l=ae l'/\B8 X d l' (G0 I K S) G1 U':=by
 refine zQ h.hl λc el=>?_;subst el;have hx:=List.forall_mem_cons.mp h.hx;have HE:=zla h.wn h.ws FM;refine zf _ rfl (zqH h.lm ?_);rw[sP.vA,zhT]
 by_cases hw:x∈w
 .rw[if_pos hw] at hK;rw[H3 hw];exact⟨hI _,hK _ _ ⟨h.e,h.lr,h.lm,⟨_,rfl⟩,h.wn,h.ws,hx.2⟩⟩
 .rw[if_neg hw] at hK;rw[H0 hw];refine zeI h.lm (by rw[am];exact zxa HE) ?_;rw[zrd hw];have PE:=(su.wB U' (.tdict (xi (w++[x]))) hn).trans h.lr;refine zo PE (zo PE (zN (by rw[am];exact zd 0x1e84812482800010090006 rfl HE) ?_));refine⟨hI _,hK _ _ ⟨(h.e.put hm).put hr,by rw[su.wA,aB];rfl,by rw[su.wB _ _ hn.symm,su.wA],⟨_,rfl⟩,?_,?_,hx.2⟩⟩
  .exact List.nodup_append.mpr ⟨h.wn,List.nodup_cons.mpr ⟨aZ,.nil⟩,λy hy z hz e=>hw (List.mem_singleton.mp hz▸e▸hy)⟩
  .exact λr h'=>(List.mem_append.mp h').elim (h.ws r) λh'=>List.mem_singleton.mp h'▸hx.1
structure AA(U:su)(g:List zn)(ms:List Mt)(rm rr rl:aH)(k:Int)(ys xs b:List (List zn))(l:Loc)(U':su):Prop where
 e:Sub U U'
 hy:b++xs=ys
 tb:∃kvs:sP,U' rl=ae (.tdict kvs)/\kvs.map (·.1)=b/\∀k∈b,sP.at kvs k=ae (.int (ug ms k))
 hl:∃a b c e,l=y5 g ms rm rr k a b c (ae (.ref rl)) e
theorem zq3(G:Gd X (hK P))(hd:d<561)(hm:∀m∈ms,xx m)(DU:ms.length<=100000)(h0:U rl=af){ys:List (List zn)}(OZ:ys.Nodup)(OT:ys.length<=256)(hs:ys.Pairwise λx y=>x.length<=y.length)(hc:∀r∈ys,∀b∈jT ms r,b∈ys)(h8:∀r∈ys,r.length<=8)
  {I:su->Prop}{K:Loc->su->Prop}(hI:∀U,I U)(h:AA U g ms rm rr rl k ys (r::xs) b l U')(hK:∀l' U',AA U g ms rm rr rl k ys xs (b++[r]) l' U'->K l' U'):∃l',j2 (.one 6) (zE r) l=ae l'/\BO X ⟨d,ai⟩ l' (G0 I K S) G1 U':=by
 refine zcb h.hl λa' b' c' N3 el=>zl h.tb λkvs ll hk hv=>?_;subst el;have hy:=h.hy;have E6:r∈ys:=by rw[<-hy];exact aJ _ aj
 have Dt:=h8 r E6;have RA:b.length<=256:=by rw[<-hy,aq] at OT;exact zb 0x2012000004024105006 rfl OT
 have Kv:kvs.length<=256:=by have:=congrArg dH hk;rw[am] at this;exact zb 0x804800080460010090406 rfl RA this
 have IM:r∉b:=by
  rw[<-hy] at OZ;exact λh=>(List.nodup_append.mp OZ).2.2 r h r aj rfl
 have K3:r∉kvs.map (·.1):=by rw[hk];exact IM
 have fin:∀σ2 (EU:sP) a b0 c c',Sub U σ2->σ2 rl=ae (.tdict EU)->EU.map (·.1)=b++[r]->sP.at EU r=ae (.int (ug ms r))->(∀b,b≠r->sP.at EU b=sP.at kvs b)->I σ2/\K (y5 g ms rm rr k a b0 c (ae (.ref rl)) c') σ2:=λσ2 EU a b0 c c' g1 g3 g4 g5 g6=>
  ⟨hI _,hK _ _ ⟨g1,by rw[aR];exact hy,zz EU g3 g4 (λz hz=>(List.mem_append.mp hz).elim (λh=>(g6 z λe=>IM (e▸h)).trans (hv z h)) λh=>by rw[List.mem_singleton.mp h];exact g5),_,_,_,_,rfl⟩⟩
 have NI:∀b∈jT ms r,sP.at (kvs.put r (.int 0)) b=ae (.int (ug ms b)):=λc hb=>by
  have Px:=hc r E6 c hb;rw[<-hy] at hs Px;have Pa:=zuF hs Px hb;rw[sP.wX,if_neg λe:c=r=>IM (e▸Pa)];exact hv c Pa
 have Ey:(kvs.put r (.int 0)).length<=300:=by have:=sP.wY kvs r (.int 0);exact zb 0x259200121a00060010090406 rfl Kv this
 have Dg:(kvs.put r (.int 0)).map (·.1)=b++[r]:=by rw[sP.vB K3,hk]
 have Nr:∀b,b≠r->sP.at (kvs.put r (.int 0)) b=sP.at kvs b:=λb hb=>by rw[sP.wX,if_neg hb]
 have KZ:sP.at (kvs.put r (.int 0)) r=ae (.int 0):=by rw[sP.wX,if_pos rfl]
 refine zf _ rfl (zeI ll (zxa Kv) ?_);have e6:Sub U (U'.set rl (.tdict (kvs.put r (.int 0)))):=h.e.put h0;have l6:(U'.set rl (.tdict (kvs.put r (.int 0)))) rl=ae (.tdict (kvs.put r (.int 0))):=su.wA ..;generalize U'.set rl (.tdict (kvs.put r (.int 0)))=σ6 at e6 l6;generalize kvs.put r (.int 0)=K8 at NI Ey Dg Nr KZ l6;refine zgz ?_;cases r with
 | nil=>exact fin _ _ _ _ _ _ e6 l6 Dg KZ Nr
 | cons x t=>
  refine zaP G (aw hd (by decide)) (zxc Dt) hm DU ?_;have El:=zj5 (ms:=ms) (r:=x::t);refine z8 (λz=>.int (ug ms z.2)) (λ_=>rfl) (λ_ _=>rfl) (λz hz R q=>zcj l6 (NI _ (al _ (by rw[<-zdK];exact b8 hz))) q) trivial (zui DU El) (zcj (k:=t) l6 (NI t aj) (zN (by rw[am,aG];exact zb 0x1e848120268008006186a090406 rfl DU El) ?_));rw[show [AV.int (1+ug ms t)]++(tk ms (x::t)).map (λz=>AV.int (ug ms z.2))=((1+ug ms t)::(v9 ms (x::t)).map (ug ms)).map .int by rw[<-zdK,aL,aY,aL];rfl];refine zgq (λe=>nomatch e) λM JZ JB=>?_;have RV:M=ug ms (x::t):=tL.vK ⟨JZ,JB⟩ ((zvi ms).cons x t);subst RV;exact zeI l6 (zAk Ey) (fin _ _ _ _ _ _ (e6.put h0) (su.wA ..) ((sP.vC (by rw[Dg];exact aJ _ aj)).trans Dg) (by rw[sP.wX,if_pos rfl]) λb hb=>by rw[sP.wX,if_neg hb];exact Nr b hb)
structure TbI(U:su)(g:List zn)(ms:List Mt)(rm rr:aH)(k:Nat)(U':su):Prop where
 ht:tE ms g k
 e:Sub U U'
 lr:U' rr=ae (.list ((zS ms g k).map zE))
 lm:U' rm=ae (.tdict (xi (zS ms g k)))
def Ci(U:su)(g:List zn)(ms:List Mt)(rm rr:aH)(n:Nat)(l:Loc)(U':su):Prop:=∃k:Nat,n=257-k/\TbI U g ms rm rr k U'/\∃a b c,l=y5 g ms rm rr k a b c af af
theorem zpQ(G:Gd X (hK P))(hd:n<560){g:List zn}(FM:g.length<=8)(hm:∀m∈ms,xx m)(DU:ms.length<=100000)
  (q:∀r kvs W,U r=af->Reach ms g W->(∀k∈W,sP.at kvs k=ae (.int (ug ms k)))->Q (.ref r) (U.set r (.tdict kvs))):sy X 159 ⟨n,ai⟩ [uB g,.lst (ms.map zx)] Q Z U:=by
 refine zqR G (aw hd (by decide)) λL=>?_;intro rm MM;refine zz g rfl (su.wA ..) ?_;intro rr IL;rw[zaO] at IL ⊢;have N2:U rr=af:=Sub.none (zF MM) IL;have PA:rr≠rm:=λe=>by rw[e,su.wA] at IL;exact absurd IL (aA _)
 refine⟨Ci U g ms rm rr,257,⟨0,rfl,⟨.zero,λa o h=>zF IL a o (zF MM a o h),su.wA ..,by rw[su.wB _ _ PA.symm,su.wA];rfl⟩,_,_,_,rfl⟩,?_⟩;intro N l' U' hR;refine zl hR λk eN H hR=>kB hR λa b c el=>?_;subst el eN;have Ct:(zS ms g k).length<=256:=zla (zbl k) (zas k) FM;refine ze (zB H.lr) ?_;rw[am];refine zaS (λhc=>?_) λhc=>?_
 .have hc:k<(zS ms g k).length:=Int.ofNat_lt.mp (H4 hc);obtain⟨r,hr⟩:∃r,(zS ms g k)[k]? = ae r:=⟨_,aC hc⟩
  have NF:r∈zS ms g k:=bX hr;have hrg:=zas k r NF;have Dt:r.length<=8:=ap hrg.length_le FM;refine jE H.lr (ze (zae hr) ?_);have tail:∀c {S:je},(∀l σ2,yf U g ms rm rr ((k:Int)+1) (ae (zE r)) (ae (.lst ((jT ms r).map zE))) [] (zS ms g (k+1)) l σ2->S .next l σ2)->vm (λ_=>True) (.one 8) (B8 (X.push L)) ⟨n+1,ai⟩ S ((jT ms r).map zE) (y5 g ms rm rr ((k:Int)+1) (ae (zE r)) (ae (.lst ((jT ms r).map zE))) c af af) U':=λc S q=>
   qD (g:=zE) (yf U g ms rm rr ((k:Int)+1) (ae (zE r)) (ae (.lst ((jT ms r).map zE)))) (λw b=>if b∈w then w else w++[b]) (λx xs w l σ2 K S_ h hK=>zqC FM MM N2 PA (λ_=>trivial) h hK) (b:=zS ms g k) (λl σ2 h=>q l σ2 (zaN hr▸h)) ⟨H.e,H.lr,H.lm,⟨_,rfl⟩,zbl k,zas k,λb hb=>((zcX hb).trans (ow _)).trans hrg⟩
  have fin:∀{S:je},(∀l σ2,Ci U g ms rm rr (257-(k+1)) l σ2->S .next l σ2)->∀l σ2,yf U g ms rm rr ((k:Int)+1) (ae (zE r)) (ae (.lst ((jT ms r).map zE))) [] (zS ms g (k+1)) l σ2->S .next l σ2:=λq l σ2 h=>
   zQ h.hl λc el=>q l σ2 ⟨k+1,rfl,⟨H.ht.succ hc,h.e,h.lr,h.lm⟩,_,_,_,el⟩
  have Cu:257-(k+1)<257-k:=zrY (a:=256) (aS hc Ct);refine zgz ?_;cases r with
  | nil=>exact zf _ Cu ⟨k+1,rfl,⟨H.ht.succ hc,H.e,by rw[zaN hr];exact H.lr,by rw[zaN hr];exact H.lm⟩,_,_,_,rfl⟩
  | cons x t=>
   refine zaP (G.push L) (zw7 hd) (zxc Dt) hm DU ?_;have El:=zj5 (ms:=ms) (r:=x::t);refine z8 (λz=>zE z.2) (λ_=>rfl) (λ_ _=>rfl) (λz hz R q=>q) trivial (zui DU El) (zN (by rw[am,aG];exact zb 0x1e848120268008006186a090406 rfl DU El) ?_);have e8:[AV.tup (List.drop (du 1) (nS z7 (x::t)))]++(tk ms (x::t)).map (λz=>zE z.2)=(jT ms (x::t)).map zE:=by
    show zE t::_=zE t::_;rw[<-zdK,aL];rfl
   rw[e8];refine tail c (fin ?_);exact λl σ2 h=>zf _ Cu h
 .have hE:End ms g k:=⟨H.ht,Nat.not_lt.mp λh=>of_decide_eq_false hc (Int.ofNat_lt.mpr h)⟩
  intro rl Dt;have Jd:=H.e.none Dt;have IK:rr≠rl:=λe=>by rw[<-e,H.lr] at Dt;exact absurd Dt (aA _)
  refine ze (zB ((su.wB _ _ IK).trans H.lr)) (zib λys hp hs=>qD (g:=zE) (AA U g ms rm rr rl k ys) (λb x=>b++[x]) (λr xs b l σ2 K S_ h hK=>zq3 (G.push L) (bH hd) hm DU Jd (hp.nodup_iff.mpr (zbl k)) (by rw[hp.length_eq];exact Ct) hs (λr hr b hb=>hp.mem_iff.mpr (hE.closed (hp.mem_iff.mp hr) hb)) (λr hr=>ap (zas k r (hp.mem_iff.mp hr)).length_le FM) (λ_=>trivial) h hK) (b:=[]) (λl σ2 h=>?_) ⟨H.e.put Jd,rfl,zz [] (su.wA ..) rfl (λk hk=>nomatch hk),_,_,_,_,rfl⟩);rw[show ys.foldl (λb x=>b++[x]) []=ys by have:=za3 (λx:List zn=>[x]) ys [];rw[this,dZ,List.flatMap_singleton']] at h;refine zcb h.hl λa' b' c' N3 el=>zl h.tb λkvs ll hk hv=>?_;subst el;refine sD.drop (U':=U.set rl (.tdict kvs)) (λa o ho=>?_) (q rl kvs ys Jd ⟨hp.mem_iff.mpr ?_,λr hr b hb=>hp.mem_iff.mpr (hE.closed (hp.mem_iff.mp hr) hb),λr hr=>zas k r (hp.mem_iff.mp hr)⟩ hv)
  .by_cases ha:a=rl
   .rw[ha,su.wA] at ho;rw[ha,ll,ho]
   .rw[su.wB _ _ ha] at ho;exact h.e a o ho
  .refine zQ (zcD (ms:=ms) (g:=g) (aE k)) λex e=>?_;rw[e];exact aW _ (List.mem_singleton.mpr rfl)
end
section
variable{P:Hm}{X:Cx}{n:Nat}{Q:zt}{Z:XP}{U:su}
theorem zaL(m):sN 2 (zx m):=.tup λx hx=>by
 rcases List.mem_cons.mp hx with rfl|hx
 .exact zfE m.1
 .rw[List.mem_singleton.mp hx];exact zfE m.2
theorem zrH(z):sN 3 (xY z):=.tup λx hx=>by
 rcases List.mem_cons.mp hx with rfl|hx
 .exact zaL z.1
 .rw[List.mem_singleton.mp hx];exact .tup (zh7 z.2)
theorem zkz(hf:∀x∈xs,sN k x)(hk:k<100)(q:R xs.isEmpty U):tV (.lst xs) (.lst []) R U:=by
 refine zcc (k:=k+1) (j:=1) (.lst hf) (.lst λx hx=>nomatch hx) hk (λh=>?_) λh=>?_
 .cases h;exact q
 .cases xs with|nil=>exact absurd rfl h|cons _ _=>exact q
noncomputable def uQ(ms:List Mt)(r:List zn):List (Mt×List zn):=(tk ms r).filter λz=>decide (ug ms z.2=ug ms r)
noncomputable def uK(ms:List Mt)(n:Nat)(r:List zn):List Mt:=match n,r with
 | 0,_=>[]
 | _+1,[]=>[]
 | n+1,x::t=>match uQ ms (x::t) with|[]=>uK ms n t|z::_=>z.1::uK ms n z.2
theorem zh1(ms)(n)(x)(t):uK ms (n+1) (x::t)=match uQ ms (x::t) with|[]=>uK ms n t|z::_=>z.1::uK ms n z.2:=rfl
noncomputable def pk(ms:List Mt)(r:List zn):List Mt:=uK ms r.length r
theorem kG(h:z∈uQ ms r):r≠[]/\z.2∈jT ms r/\z.1∈ms/\qF r z.1=ae z.2:=by
 have h1:=(List.mem_filter.mp h).1;refine za (List.mem_filterMap.mp h1) λm hm h2=>za (Option.map_eq_some_iff.mp h2) λb h3 CP=>?_;subst CP;cases r with
 | nil=>exact nos h3
 | cons x t=>exact zA (λe=>nomatch e) (al _ (List.mem_filterMap.mpr (zf m hm h3))) hm h3
theorem ztI(ms):∀(n m:Nat) (r:List zn),r.length<=n->r.length<=m->uK ms n r=uK ms m r:=by
 intro n
 induction n with
 | zero=>intro m r h1 h2;rw[List.length_eq_zero_iff.mp (Nat.le_zero.mp h1)];cases m<;>rfl
 | succ n ih=>
  intro m r h1 h2;cases r with
  | nil=>cases m<;>rfl
  | cons x t=>
   cases m with
   | zero=>cases h2
   | succ m=>
    rw[au] at h1 h2;rw[zh1,zh1];cases hg:uQ ms (x::t) with
    | nil=>exact ih m t (zrV h1) (zrV h2)
    | cons z zs=>
     have h3:=qG (kG (ms:=ms) (r:=x::t) (z:=z) (by rw[hg];exact aj)).2.1;rw[au] at h3;dsimp only;rw[ih m z.2 (zr1 h1 h3) (zr1 h2 h3)]
theorem zpj(ms):pk ms []=[]:=rfl
theorem zkX(h:uQ ms (x::t)=[]):pk ms (x::t)=pk ms t:=by
 show uK ms (t.length+1) (x::t)=_;rw[zh1,h];rfl
theorem zkY(h:uQ ms (x::t)=z::zs):pk ms (x::t)=z.1::pk ms z.2:=by
 have h3:=qG (kG (ms:=ms) (r:=x::t) (z:=z) (by rw[h];exact aj)).2.1;show uK ms (t.length+1) (x::t)=_;rw[zh1,h];dsimp only;rw[ztI ms t.length z.2.length z.2 (zud h3) (ar _)];rfl
theorem zmu(G:Gd X (hK P))(hd:n<550)(FM:g.length<=8)(hm:∀m∈ms,xx m)(DU:ms.length<=100000)(q:Q (.lst ((pk ms g).map zx)) U):sy X 164 ⟨n,ai⟩ [uB g,.lst (ms.map zx)] Q Z U:=by
 refine zov G (aw hd (by decide)) λL=>zpQ (G.push L) (zz2 hd) FM hm DU λrt kvs W OY hW Jo=>?_;intro rf M9;have Kp:U rf=af:=Sub.none (zF OY) M9;have CL:rt≠rf:=by rintro rfl;rw[su.wA] at M9;exact absurd M9 (aA _)
 have e0:Sub U ((U.set rt (.tdict kvs)).set rf (.list [])):=λa o h=>zF M9 a o (zF OY a o h);have Jv:((U.set rt (.tdict kvs)).set rf (.list [])) rt=ae (.tdict kvs):=by rw[su.wB _ _ CL,su.wA]
 have MV:((U.set rt (.tdict kvs)).set rf (.list [])) rf=ae (.list (([]:List Mt).map zx)):=su.wA ..;generalize (U.set rt (.tdict kvs)).set rf (.list [])=U0 at e0 Jv MV;refine⟨λn l' U'=>∃(r:List zn) (fs:List Mt) (a5:Option AV),n=r.length/\Sub U U'/\U' rf=ae (.list (fs.map zx))/\U' rt=ae (.tdict kvs)/\r∈W/\fs++pk ms r=pk ms g/\fs.length+r.length<=8/\l'=[ae (uB g),ae (.lst (ms.map zx)),ae (.ref rt),ae (zE r),ae (.ref rf),a5],
  g.length,(ze6 g [] _ rfl e0 MV Jv hW.self rfl (by rw[bG];exact zd 0x100228080006 rfl FM) rfl),?_⟩
 clear e0 Jv MV;intro N l' U' Da;refine ze3 Da λr fs a5 I9 e lf lt' M2 Jr Ct Kg=>?_;subst I9;subst Kg;refine zgz ?_;cases r with
 | nil=>
  rw[zpj,bz] at Jr;rw[<-Jr] at q;exact sD.one e lf Kp q
 | cons x t=>
  refine zaP (G.push L) (zz3 hd) (by rw[au];exact zb 0x7d1248280824140d006 rfl Ct) hm DU ?_;have QX:∀z∈tk ms (x::t),z.2∈jT ms (x::t):=λz hz=>al _ (by rw[<-zdK];exact b8 hz);have El:=zj5 (ms:=ms) (r:=x::t);refine jm (λz=>decide (ug ms z.2=ug ms (x::t))) xY (λ_=>rfl) (λ_ _=>rfl) (λz hz R q=>?_) (λz hz _ R q=>q) trivial (zui DU El) ?_
  .exact zcj lt' (Jo _ (hW.closed _ M2 _ (QX z hz))) (zcj lt' (Jo _ M2) q)
  refine zkz (k:=3) (λy hy=>by refine za (List.mem_map.mp hy) λz _ Dc=>?_;subst Dc;exact zrH z) (by decide) ?_;cases hg:uQ ms (x::t) with
  | nil=>
   unfold uQ at hg;rw[hg];exact zaV t.length (by rw[au];exact zp0) t fs _ rfl e lf lt' (hW.closed _ M2 t aj) (by rw[<-Jr,zkX hg]) (zAV Ct) rfl
  | cons z zs=>
   have hz:=kG (ms:=ms) (r:=x::t) (z:=z) (by rw[hg];exact aj);have h3:=qG hz.2.1;have M4:=zkY hg;unfold uQ at hg;rw[hg];refine zo lf (zo lf (zN (by rw[am];exact zb 0x1e84812482808243405006 rfl Ct) (zaV z.2.length (by rw[au];exact zb 0x2434482804868905006 rfl h3) z.2 (fs++[z.1]) _ rfl (e.put Kp) ?_ ?_ (hW.closed _ M2 _ hz.2.1) ?_ ?_ rfl)))
   .rw[su.wA,aB];rfl
   .rw[su.wB _ _ CL];exact lt'
   .rw[<-Jr,M4,aR];rfl
   .rw[aq,aG];exact zc 0x40290528048a890d0068245405006 rfl Ct h3
end
section
variable{P:Hm}{X:Cx}{n:Nat}{Q:zt}{Z:XP}{U:su}
structure sJ where
 es:List td
 fs:List td
 span:Int
 tick:List Mt
 clos:List Mt
structure LA where
 self:aH
 dx:aH
 rd:aH
 pb:aH
 pk:aH
 pt:aH
 pc:aH
noncomputable def wq(a:LA)(D:sJ):List (Nat×AV):=[(3,.int D.span),(4,.ref a.rd),(5,.ref a.pt),(6,.ref a.pc)]
structure sU(U:su)(a:LA)(D:sJ):Prop where
 s:U a.self=ae (.inst 245 a.dx)
 d:U a.dx=ae (.idict (wq a D))
 r:U a.rd=ae (.idict [(0,.ref a.pb),(1,.ref a.pk)])
 b:U a.pb=ae (.list (D.es.map zD))
 k:U a.pk=ae (.list (D.fs.map zD))
 t:U a.pt=ae (.list (D.tick.map zx))
 c:U a.pc=ae (.list (D.clos.map zx))
 dr:a.dx≠a.rd
 nd:[a.pb,a.pk,a.pt,a.pc].Nodup
def xl(m:Mt):Prop:=tN m/\m.1≠[]/\m.2≠[]
structure t5(D:sJ):Prop where
 es:sO D.es
 fs:sO D.fs
 few:D.es.length<=80/\D.fs.length<=80
 tick:∀m∈D.tick,xl m
 clos:∀m∈D.clos,xl m
 tl:D.tick.length<=1000
 cl:D.clos.length<=1000
noncomputable def sJ.row(D:sJ)(s:Bool):List td:=if s then D.fs else D.es
noncomputable def LA.row(a:LA)(s:Bool):aH:=if s then a.pk else a.pb
noncomputable def sJ.grps(D:sJ):List (List zn):=Mine.Internal.grps D.es D.fs D.span
theorem sU.row(h:sU U a D)(s):U (a.row s)=ae (.list ((D.row s).map zD)):=by
 cases s with
 | false=>exact h.b
 | true=>exact h.k
theorem zbp(h:sU U a D)(q:Q (.ref (a.row s)) U):uP a.rd (.str s.toNat) Q U:=by
 refine zJ h.r ?_;cases s<;>exact q
theorem zbD(G:Gd X (hK P))(hd:n<570)(h:sU U a D)(ho:t5 D)(q:Q (.lst (D.grps.map uB)) U):sy X 185 ⟨n,ai⟩ [.ref a.self] Q Z U:=by
 exact zgg G (aw hd (by decide)) λL=>zk h.s h.d (zbp (s:=ai) h (zk h.s h.d (zbp (s:=ag) h (zk h.s h.d (zlE (G.push L) (zw8 hd) h.b h.k ho.es ho.fs (sD.same q))))))
noncomputable def sJ.holding(D:sJ)(m:zn):List (List zn):=D.grps.filter λg=>decide (m∈g)
theorem grps_len{ts:List Tr}(b):(ts.foldl (qZ span) b).1.length<=b.1.length+ts.length:=by
 induction ts generalizing b with
 | nil=>exact ar _
 | cons t ts ih=>
  have h:(qZ span b t).1.length<=b.1.length+1:=by
   unfold qZ jV;dsimp only;split
   .rename_i hg
    split at hg<;>simp_all
   .rename_i g hg
    have:(if wc span b.2 t.1 then b.1++[[]] else b.1).length<=b.1.length+1:=by split<;>simp
    rw[aq,List.length_dropLast,aG];have CL:(if wc span b.2 t.1 then b.1++[[]] else b.1)≠[]:=λe=>by rw[e] at hg;exact nos hg
    have:=List.length_pos_iff.mpr CL;exact zb 0x24344a415a0121a0006 rfl (by assumption)
  have:=ih (qZ span b t);exact zg 0x24540d00010e8001921a0c06 rfl h this
theorem sJ.grps_len{D:sJ}(h:t5 D):D.grps.length<=10000:=by
 have h1:=Mine.Internal.grps_len (ts:=ti D.es D.fs) (span:=D.span) ([],af);have h2:=zbq D.es D.fs;have:=h.few;unfold sJ.grps Mine.Internal.grps;exact zg 0x138848000005090c0000a121008618a8111828a0006 rfl h1 h2 this
theorem zhj(G:Gd X (hK P))(hd:n<560)(h:sU U a D)(ho:t5 D)(hg:D.holding m=g::gs)(q:Q (uB g) U):sy X 228 ⟨n,ai⟩ [.ref a.self,.str m.1.toNat,.int m.2] Q Z U:=by
 refine zi8 G (aw hd (by decide)) λL=>zk h.s h.d (zbD (G.push L) (zw7 hd) h ho ?_);have:=sJ.grps_len ho;refine jm (λg=>decide (m∈g)) uB (λ_=>rfl) (λ_ _=>rfl) (λg _ R q=>?_) (λg _ _ R q=>q) trivial (zAd this) ?_
 .exact inM (.inl rfl) q
 unfold sJ.holding at hg;rw[hg];exact sD.same q
theorem zcu(G:Gd X (hK P))(hd:n<560)(h:sU U a D)(ho:t5 D)(q:∀r,U r=af->sD Q (.ref r) (U.set r (.list ((srt sM D.tick).map zx)))):sy X 211 ⟨n,hb⟩ [.ref a.self] Q Z U:=by
 refine zlQ G (aw hd (by decide)) λL=>zk h.s h.d ?_
 conv=>whnf
 exact ze (zB h.t) (zeU (G.push L) (zz4 hd) (λm hm=>(ho.tick m hm).1) q)
theorem ziD(hr:U r=af)(q:Q (.lst xs) U):sD Q (.ref r) (U.set r (.list xs)):=sD.one (zF hr) (su.wA ..) hr q
theorem zc5(G:Gd X (hK P))(hd:n<560)(h:sU U a D)(q:∀r,U r=af->sD Q (.ref r) (U.set r (.list (D.clos.map zx)))):sy X 218 ⟨n,hb⟩ [.ref a.self] Q Z U:=by
 refine zot G (aw hd (by decide)) λL=>zk h.s h.d ?_
 conv=>whnf
 exact ze (zB h.c) q
noncomputable def sJ.told(D:sJ):List zn:=D.tick.flatMap zr
noncomputable def sJ.left(D:sJ)(s:Bool):List Nat:=(bJ (D.row s).length).filter λi=>!decide ((s,(i:Int))∈D.told)
theorem zml(h:tN m):(zr m).length<=6:=by
 unfold zr;rw[aq,am,am];have h1:m.1.length<=3:=h.1.1;have h2:m.2.length<=3:=h.2.1;exact zb 0xe082805840658006 rfl h1 h2
theorem zcU(G:Gd X (hK P))(hd:n<560)(h:sU U a D)(ho:t5 D)(q:∀r,U r=af->sD Q (.ref r) (U.set r (.list ((D.left s).map λi:Nat=>.int i)))):sy X 223 ⟨n,ai⟩ [.ref a.self,.str s.toNat] Q Z U:=by
 refine ztg G (aw hd (by decide)) λL=>?_;have El:=ho.tl;refine zk h.s h.d ?_
 conv=>whnf
 refine ze (zB h.t) ?_;refine qE (g:=zx) (λb (u:Option AV)=>[ae (.ref a.self),ae (.str s.toNat),ae (.lst (b.map z7)),u]) (λ_=>U) (λxs b=>b.length+6*xs.length<=6000/\∀m∈xs,m∈D.tick) (λb m=>b++zr m) (λm xs b u K S_ hJ=>?_) (b:=[]) (λu=>?_) ⟨by rw[bG];exact zd 0x5dc24000006b2280003e890006 rfl El,λm hm=>hm⟩
 .obtain⟨hl,hx⟩:=hJ;rw[au] at hl;have hm:=(ho.tick m (hx m aj)).1;have DU:=zml hm;have h1:m.1.length<=3:=hm.1.1;have h2:m.2.length<=3:=hm.2.1;refine⟨⟨by rw[aq];exact zc 0x2ee121000035820a500e080c02ee1248a80000d605006 rfl hl DU,λy hy=>hx y (al _ hy)⟩,λhK=>zf _ rfl ?_⟩;refine zaa (G.push L) (zz5 hd) (znh h1) (znh h2) (zN (by rw[am,am];exact zc 0x3d0902410500e080c02ee1248a80000d605006 rfl hl DU) ?_);rw[<-aB];exact⟨h.t,hK _⟩
 .rw[za3,dZ];refine zk h.s h.d (zbp h (ze (zB (h.row s)) ?_));rw[am];have Dt:(D.row s).length<=80:=by
   cases s with
   | false=>exact ho.few.1
   | true=>exact ho.few.2
  refine zdm (zxd Dt) (jm (λi:Nat=>!decide ((s,(i:Int))∈D.told)) (λi:Nat=>.int i) (λ_=>rfl) (λ_ _=>rfl) (λi _ R q=>?_) (λi _ _ R q=>q) trivial (by rw[be];exact zxd Dt) ?_)
  .exact inM (m:=(s,(i:Int))) (ms:=D.told) (.inl rfl) q
  .exact q
end
section
variable{P:Hm}{X:Cx}{n:Nat}{Q:zt}{Z:XP}{U:su}
theorem zkD{V β:Type}{f:V->List β}{l:List V}(h:∀a∈l,(f a).length<=c):(l.flatMap f).length<=l.length*c:=by
 induction l with
 | nil=>exact aE _
 | cons a l ih=>
  rw[cM,aq,au,f0];have:=h a aj;have:=ih λb hb=>h b (al _ hb);exact zg 0xc54082801040618006 rfl (by assumption) this
theorem zrQ(h:g.length<=8):(v8 es fs span g).length<=20480:=by
 unfold v8;rw[(zR ..).length_eq];refine ap (zkD (c:=4096) λz hz=>?_) (by decide);have FU:∀z∈uO,8 ^ z.1*8 ^ z.2<=4096:=by decide
 refine ap (zkD (c:=8 ^ z.2) λl hl=>?_) (ap (bI _ (zat (zdL h) z.1)) (FU z hz));unfold qK;rw[am];exact ap (bL ..) (zat (zdL h) z.2)
noncomputable def qA(m:Mt):zn:=(zr m).headD (ai,0)
noncomputable def sJ.pick(D:sJ)(g:List zn):sJ:={ D with tick:=(D.tick.filter λm=>!decide (qA m∈g))++pk ((v8 D.es D.fs D.span g).filter λm=>!decide (m∈D.clos)) g }
theorem sU.ticks(h:sU U a D)(hp:U p=af)(tk):sU ((U.set p (.list (tk.map zx))).set a.dx (.idict (wq { a with pt:=p } D))) { a with pt:=p } { D with tick:=tk }:=by
 have ne:∀{q:aH} {o:AO},U q=ae o->q≠p:=λe q=>by rw[q,hp] at e;exact absurd (d6 e) (aA _)
 have nd:∀{q:aH} {xs:List AV},U q=ae (.list xs)->q≠a.dx:=λe q=>by rw[q,h.d] at e;cases e
 have JU:a.dx≠p:=ne h.d;have Qj:a.self≠a.dx:=λq=>by have:=h.s;rw[q,h.d] at this;cases this
 have st:∀{q:aH} {o:AO},U q=ae o->q≠a.dx->((U.set p (.list (tk.map zx))).set a.dx (.idict (wq { a with pt:=p } D))) q=ae o:=λe hq=>by rw[su.wB _ _ hq,su.wB _ _ (ne e)];exact e
 obtain⟨n1,n2⟩:=List.nodup_cons.mp h.nd;obtain⟨n3,n4⟩:=List.nodup_cons.mp n2;obtain⟨n5,n6⟩:=List.nodup_cons.mp n4;refine⟨st h.s Qj,su.wA ..,st h.r h.dr.symm,st h.b (nd h.b),st h.k (nd h.k),?_,st h.c (nd h.c),h.dr,?_⟩
 .rw[su.wB _ _ (bO JU)];exact su.wA ..
 .show [a.pb,a.pk,p,a.pc].Nodup;have e1:=ne h.b;have e2:=ne h.k;have e3:=ne h.c;simp only[pD,bR,aZ,or_false,not_or,not_false_eq_true,rh,and_true] at n1 n3 n5 ⊢;exact zu (zu n1.1 e1 n1.2.2) ⟨e2,n3.2⟩ e3.symm
theorem zds{a:LA}(hp:U p=af)(tk:List Mt)(hx:x≠a.dx)(e:U x=ae o):((U.set p (.list (tk.map zx))).set a.dx (.idict (wq { a with pt:=p } D))) x=ae o:=by
 rw[su.wB _ _ hx,su.wB _ _ (by rintro rfl;rw[hp] at e;exact nos e)];exact e
theorem zez(h:zx m=zx m'):m=m':=by
 obtain⟨a,b⟩:=m;obtain⟨c,d⟩:=m';have inj:∀{l r:List Int},l.map AV.int=r.map AV.int->l=r:=λ{l r} e=>by
  have:=congrArg (nS v6) e;rw[aL,aL] at this;have hi:v6∘AV.int=id:=rfl;rw[hi,eV,eV] at this;exact this
 unfold zx at h;injection h with h
 injection h with h1 h2
 injection h2 with h2 _
 injection h1 with h1
 injection h2 with h2
 have e1:a=c:=inj h1;have e2:b=d:=inj h2;subst e1 e2;rfl
theorem zo0{ms:List Mt}:zx m∈ms.map zx↔m∈ms:=⟨λh=>by refine za (List.mem_map.mp h) λx h1 h2=>?_;rw[<-zez h2];exact h1,λh=>b8 h⟩
theorem zqG{ms:List Mt}{R:Bool->su->Prop}(hp:U p=ae (.list (ms.map zx)))(q:R (decide (m∈ms)) U):inR (zx m) p R U:=by
 refine zol hp (zaL m) (λy hy=>?_) (by decide) (λh=>?_) λh=>?_
 .refine za (List.mem_map.mp hy) λx _ DB=>?_;subst DB;exact zaL x
 .rw[zo0] at h;rw[H3 h] at q;exact q
 .rw[zo0] at h;rw[H0 h] at q;exact q
theorem zpZ(hg:va g es.length fs.length)(h:m∈v8 es fs span g):xl m:=by
 refine qq (ziB hg ((zR ..).mem_iff.mp h)) λh1 _ _ h2 _=>(zu h1 (λe=>?_) (λe=>?_))<;>rw[e,bG] at h2<;>simp at h2
theorem zu3(h:xl m):xx m:=⟨bS h.1.1.1,bS h.1.2.1⟩
theorem zph(ms)(r):(pk ms r).length<=r.length:=by
 have Dj:∀n r,(uK ms n r).length<=n:=λn=>by
  induction n with
  | zero=>intro r;exact ar 0
  | succ n ih=>
   intro r;cases r with
   | nil=>exact aE _
   | cons x t=>
    rw[zh1];cases uQ _ (x::t) with
    | nil=>exact bS (ih t)
    | cons z _=>exact b6 (ih _)
 exact Dj _ _
theorem zkW(G:Gd X (hK P))(hd:n<540){a:LA}{D:sJ}(h:sU U a D)(ho:t5 D){g:List zn}(hg:va g D.es.length D.fs.length)
  (q:∀U' Fj,(∀x o,x≠a.dx->U x=ae o->U' x=ae o)->U Fj=af->sU U' { a with pt:=Fj } (D.pick g)->Q .none U'):sy X 190 ⟨n,ai⟩ [.ref a.self,uB g] Q Z U:=by
 refine zti G (aw hd (by decide)) λL=>?_;have El:=ho.tl
 conv=>whnf
 refine zk h.s h.d ?_
 conv=>whnf
 refine ze (zB h.t) (jm (λm=>!decide (qA m∈g)) zx (λ_=>rfl) (λ_ _=>rfl) (λm hm R q=>?_) (λm hm _ R q=>q) h.t (zgS El) ?_)
 .have GA:=ho.tick m hm;have h1:m.1.length<=3:=GA.1.1.1;have h2:m.2.length<=3:=GA.1.2.1;refine zaa (G.push L) (zz1 hd) (znh h1) (znh h2) ?_;unfold qA at q;cases hmm:zr m with
  | nil=>
   exfalso;have:=congrArg dH hmm;unfold zr at this;rw[aq,am,bG] at this;exact GA.2.1 (List.length_eq_zero_iff.mp (zxs this))
  | cons x t=>
   rw[hmm] at q;exact inM (.inl rfl) q
 intro p1 Ec;refine zk ((zF Ec) _ _ h.s) ((zF Ec) _ _ h.d) ?_;have h1:=h.ticks Ec (D.tick.filter λm=>!decide (qA m∈g));have EC:=λx o (hx:x≠a.dx) e=>zds (a:=a) (D:=D) Ec (D.tick.filter λm=>!decide (qA m∈g)) (x:=x) (o:=o) hx e;refine jr rfl ?_;have ef:jl (wq a D) 5 (.ref p1)=wq { a with pt:=p1 } D:=rfl;rw[ef];generalize (U.set p1 (.list ((D.tick.filter λm=>!decide (qA m∈g)).map zx))).set a.dx (.idict (wq { a with pt:=p1 } D))=σ1 at h1 EC ⊢;refine zk h1.s h1.d (zbp (s:=ai) h1 (zk h1.s h1.d (zbp (s:=ag) h1 (zk h1.s h1.d (znf (G.push L) (zz0 hd) h1.b h1.k ho.es ho.fs hg (zk h1.s h1.d ?_))))));have hwl:=zrQ (es:=D.es) (fs:=D.fs) (span:=D.span) hg.few;refine jm (λm=>!decide (m∈D.clos)) zx (λ_=>rfl) (λ_ _=>rfl) (λm hm R q=>?_) (λm hm _ R q=>q) trivial (by lia) ?_
 .exact zk h1.s h1.d (zqG h1.c q)
 refine zmu (G.push L) (zzZ hd) hg.few (λm hm=>zu3 (zpZ hg (List.mem_filter.mp hm).1)) (ap (bL ..) (by lia)) (ze (zB h1.t) ?_);have ID:=zph ((v8 D.es D.fs D.span g).filter λm=>!decide (m∈D.clos)) g;have Fi:=bL (λm=>!decide (qA m∈g)) D.tick;have Qu:=hg.few;refine zN (by rw[am,am];dsimp only;exact zg 0x1e848120828080c061000618406003e890806 rfl El ID Fi Qu) ?_;intro p2 D0;refine zk ((zF D0) _ _ h1.s) ((zF D0) _ _ h1.d) ?_;rw[<-aB];have h2:=h1.ticks D0 ((D.tick.filter λm=>!decide (qA m∈g))++pk ((v8 D.es D.fs D.span g).filter λm=>!decide (m∈D.clos)) g);refine sD.same (q _ p2 (λx o hx e=>zds D0 _ hx (EC x o hx e)) ?_ h2);cases e:U p2 with
 | none=>rfl
 | some o=>
  by_cases hx:p2=a.dx
  .rw[hx] at D0;have:=h1.d;rw[D0] at this;exact absurd (d6 this) (aA _)
  .rw[EC p2 o hx e] at D0;exact absurd D0 (aA _)
end
section
variable{P:Hm}{X:Cx}{n:Nat}{Q:zt}{Z:XP}{U:su}
theorem zno(h:gs≠[])(m):(jV gs m).flatten=gs.flatten++[m]:=by
 obtain⟨g0,g,rfl⟩:∃g0 g,gs=g0++[g]:=(j3 _ _ ((de h).symm))
 rw[jW];simp
theorem zsG(h:gs≠[])(m):jV gs m≠[]:=by
 obtain⟨g0,g,rfl⟩:∃g0 g,gs=g0++[g]:=(j3 _ _ ((de h).symm))
 rw[jW];simp
theorem ziR(ts:List Tr)(b:List (List zn)×Option Int)(hb:b.2=af\/b.1≠[]):(ts.foldl (qZ span) b).1.flatten=b.1.flatten++ts.map (·.2):=by
 induction ts generalizing b with
 | nil=>exact(bz _).symm
 | cons t ts ih=>
  rw[bV];have CL:(if wc span b.2 t.1 then b.1++[[]] else b.1)≠[]:=by
   split
   .simp
   .rename_i ho
    exact hb.resolve_left λe=>ho (by rw[e];rfl)
  have Fi:(if wc span b.2 t.1 then b.1++[[]] else b.1).flatten=b.1.flatten:=by split<;>simp
  rw[ih _ (.inr (zsG CL _))];unfold qZ;dsimp only;rw[zno CL,Fi,aY,aR];rfl
theorem km(es fs:List td)(span:Int):(grps es fs span).flatten=(ti es fs).map (·.2):=by
 unfold grps;rw[ziR _ _ (.inl rfl)];rfl
theorem zdq(s)(es):((vU s es).map (·.2)).Nodup:=by
 unfold vU;rw[aL];refine zo8 oS λa _ b _ e=>?_;have:=congrArg Prod.snd e;exact rH this
theorem ziA(es fs):((uu es fs).map (·.2)).Nodup:=by
 unfold uu;rw[aB,fU];refine zu (zdq _ _) (zdq _ _) (λa ha b hb e=>?_);refine za (List.mem_map.mp ha) λx hx CU=>?_;subst CU;refine za (List.mem_map.mp hb) λy hy CP=>?_;subst CP;refine za (List.mem_map.mp hx) λi _ Dc=>?_;subst Dc;refine za (List.mem_map.mp hy) λj _ Di=>?_;subst Di;cases e
theorem zfm(es fs):((ti es fs).map (·.2)).Nodup:=((zR ui (uu es fs)).map _).nodup_iff.mpr (ziA es fs)
theorem mem_inO{es fs:List td}{m:zn}:m∈(ti es fs).map (·.2)↔∃k:Nat,m.2=k/\k<(if m.1 then fs else es).length:=by
 obtain⟨b,i⟩:=m;constructor
 .intro h;refine za (List.mem_map.mp h) λt ht e=>?_;have ht:=inO_mem.mp ht
  rcases List.mem_append.mp ht with h|h<;>obtain⟨k,hk,rfl⟩:=List.mem_map.mp h<;>cases e<;>exact zf k rfl (List.mem_range.mp hk)
 .intro Da;obtain⟨k,hk,hl⟩:=Da;cases hk;cases b with|false=>exact List.mem_map.mpr (zf _ (inO_mem.mpr (aW _ (List.mem_map.mpr (zf k (List.mem_range.mpr hl) rfl)))) rfl)|true=>exact List.mem_map.mpr (zf _ (inO_mem.mpr (aJ _ (List.mem_map.mpr (zf k (List.mem_range.mpr hl) rfl)))) rfl)
theorem zaf{V:Type}{gs:List (List V)}(h:gs.flatten.Nodup){g:List V}(hg:g∈gs):g.Nodup:=nF (List.sublist_flatten_of_mem hg) h
theorem zf8(hg:g∈grps es fs span)(h8:g.length<=8)(hs:es.length<=80/\fs.length<=80):va g es.length fs.length:=by
 have Fi:=km es fs span;refine⟨zaf (by rw[Fi];exact zfm es fs) hg,λm hm=>?_,h8,hs⟩;have:m∈(ti es fs).map (·.2):=by rw[<-Fi];exact List.mem_flatten.mpr (zf g hg hm)
 refine za (mem_inO.mp this) λk h1 h2=>?_;rw[h1];cases hb:m.1<;>rw[hb] at h2<;>simp only[aT,if_false,if_true] at h2 ⊢<;>exact zb 0x3948334083280902905006 rfl h2
theorem zbO(D:sJ){m:zn}{k:Nat}(hk:m.2=k)(hl:k<(D.row m.1).length):∃g gs,D.holding m=g::gs/\g∈D.grps/\m∈g:=by
 have:m∈D.grps.flatten:=by
  unfold sJ.grps;rw[km];exact mem_inO.mpr (zf k hk hl)
 refine za (List.mem_flatten.mp this) λg h1 h2=>?_;have hm:g∈D.holding m:=List.mem_filter.mpr ⟨h1,H3 h2⟩;cases hh:D.holding m with
 | nil=>rw[hh] at hm;cases hm
 | cons g' gs=>
  have Dx:g'∈D.holding m:=by rw[hh];exact aj
  exact zP g' gs rfl ((List.mem_filter.mp Dx).1) (H4 (List.mem_filter.mp Dx).2)
noncomputable def sJ.add(D:sJ)(s:Bool)(e:td):sJ:=match s with|false=>{ D with es:=D.es++[e] }|true=>{ D with fs:=D.fs++[e] }
theorem zb4(D:sJ)(s)(e):(D.add s e).row s=D.row s++[e]:=by cases s<;>rfl
theorem zhg(h:sO es)(he:k7 e.1 e.2=ag)(hl:es.length<1000):sO (es++[e]):=by
 unfold k7 at he;simp only[bx,decide_eq_true_eq,fS] at he;obtain⟨⟨⟨⟨h1,h2⟩,h3⟩,h4⟩,_⟩:=he;refine⟨λx hx=>?_,λx hx=>?_,by rw[aq,aG];exact zd 0x1f44920a0000fa24905006 rfl hl⟩
 .rcases List.mem_append.mp hx with h'|h'
  .exact h.day x h'
  .rw[List.mem_singleton.mp h'];exact⟨h1,h2⟩
 .rcases List.mem_append.mp hx with h'|h'
  .exact h.cents x h'
  .rw[List.mem_singleton.mp h'];lia
theorem zgk(h:t5 D)(he:k7 e.1 e.2=ag)(hl:(D.row s).length<80):t5 (D.add s e):=by
 have hf:=h.few;cases s with
 | false=>exact⟨zhg h.es he (zAI hf),h.fs,⟨by show (D.es++[e]).length<=80;rw[aq,aG];exact hl,hf.2⟩,h.tick,h.clos,h.tl,h.cl⟩
 | true=>exact⟨h.es,zhg h.fs he (zAJ hf),⟨hf.1,by show (D.fs++[e]).length<=80;rw[aq,aG];exact hl⟩,h.tick,h.clos,h.tl,h.cl⟩
theorem sU.add(h:sU U a D)(s)(e):sU (U.set (a.row s) (.list (((D.row s)++[e]).map zD))) a (D.add s e):=by
 have nd:∀{q:aH} {o:AO},U q=ae o->(∀xs,o≠.list xs)->q≠a.row s:=λeq hq q=>by rw[q,h.row s] at eq;obtain rfl:=Hz eq;exact hq _ rfl
 obtain⟨n1,n2⟩:=List.nodup_cons.mp h.nd;obtain⟨n3,n4⟩:=List.nodup_cons.mp n2;simp only[bR,aZ,or_false,not_or] at n1 n3;have e1:U.set (a.row s) (.list (((D.row s)++[e]).map zD)) a.self=_:=(su.wB _ _ (nd h.s (λ_ q=>nomatch q))).trans h.s;have e2:U.set (a.row s) (.list (((D.row s)++[e]).map zD)) a.dx=_:=(su.wB _ _ (nd h.d (λ_ q=>nomatch q))).trans h.d;have e3:U.set (a.row s) (.list (((D.row s)++[e]).map zD)) a.rd=_:=(su.wB _ _ (nd h.r (λ_ q=>nomatch q))).trans h.r;cases s with
 | false=>exact⟨e1,e2,e3,su.wA ..,(su.wB _ _ (bO n1.1)).trans h.k,(su.wB _ _ (bO n1.2.1)).trans h.t,(su.wB _ _ (bO n1.2.2)).trans h.c,h.dr,h.nd⟩
 | true=>exact⟨e1,e2,e3,(su.wB _ _ n1.1).trans h.b,su.wA ..,(su.wB _ _ (bO n3.1)).trans h.t,(su.wB _ _ (bO n3.2)).trans h.c,h.dr,h.nd⟩
theorem zpD(h:U p=ae o):(U.set p o').set p o=U:=by
 funext b
 by_cases hb:b=p
 .subst hb;rw[su.wA,h]
 .rw[su.wB _ _ hb,su.wB _ _ hb]
theorem zeS:∀y∈[AV.str 0,AV.str 1],sN 0 y:=λy hy=>by
 rcases List.mem_cons.mp hy with rfl|hy
 .exact .str (by decide)
 .rw[List.mem_singleton.mp hy];exact .str (by decide)
theorem zoo{s:Bool}{R:Bool->su->Prop}(q:R ag U):uS (.str s.toNat) (.tup [.str 0,.str 1]) R U:=by
 have hs:AV.str s.toNat∈[AV.str 0,AV.str 1]:=by
  cases s with
  | false=>exact aj
  | true=>exact al _ aj
 exact zck (xs:=[.str 0,.str 1]) (.inr rfl) (zeS _ hs) zeS (by decide) (λ_=>q) λhn=>absurd hs hn
theorem zpm(G:Gd X (hK P))(hd:n<520)(h:sU U a D)(ho:t5 D){e:td}(he:k7 e.1 e.2=ag)(hl:(D.row s).length<80)(hg:(D.add s e).holding (s,((D.row s).length:Int))=g::gs)
  (q:g.length<=8->∀U' Fj,(∀x o,x≠a.dx->x≠a.row s->U x=ae o->U' x=ae o)->U Fj=af->sU U' { a with pt:=Fj } ((D.add s e).pick g)->Q (.int (D.row s).length) U')(qx:8<g.length->Z 94 U) :
  sy X 197 ⟨n,ai⟩ [.ref a.self,.str s.toNat,.int e.1,.int e.2] Q Z U:=by
 refine zvf G (aw hd (by decide)) λL=>zoo (zhx (G.push L) (zzY hd) ?_);rw[he];refine zk h.s h.d (zbp h (zo (h.row s) (zo (h.row s) (zN (by rw[am];exact zt4 hl) ?_))));have h1:=h.add s e;have D7:=zgk ho he hl;have EQ:(U.set (a.row s) (.list (((D.row s)++[e]).map zD))) (a.row s)=ae (.list ((D.row s).map zD++[zD e])):=by rw[su.wA,aB];rfl
 have EC:∀x o,x≠a.row s->U x=ae o->(U.set (a.row s) (.list (((D.row s)++[e]).map zD))) x=ae o:=λx o hx ex=>(su.wB _ _ hx).trans ex;have bk:(U.set (a.row s) (.list (((D.row s)++[e]).map zD))).set (a.row s) (.list ((D.row s).map zD))=U:=zpD (h.row s);have nn:∀x,(U.set (a.row s) (.list (((D.row s)++[e]).map zD))) x=af->U x=af:=λx hx=>by
  by_cases hxr:x=a.row s
  .rw[hxr,su.wA] at hx;exact absurd hx (aA _)
  .rw[su.wB _ _ hxr] at hx;exact hx
 have eL:(D.row s).map zD++[zD e]=((D.row s)++[e]).map zD:=by rw[aB];rfl
 rw[show AV.tup [AV.int e.1,AV.int e.2]=zD e from rfl,eL];unfold A.w1;generalize U.set (a.row s) (.list (((D.row s)++[e]).map zD))=σ1 at h1 EQ EC bk nn ⊢;refine zk h1.s h1.d (ze (zB EQ) ?_);have el:(((D.row s).map zD++[zD e]).length:Int)-1=(D.row s).length:=by rw[aq,am,aG];exact zt7
 conv=>whnf
 rw[el];refine zhj (m:=(s,((D.row s).length:Int))) (G.push L) (zzX hd) h1 D7 hg ?_
 conv=>whnf
 rw[am];refine zaS (λh8=>?_) λh8=>?_
 .have h8:8<g.length:=Int.ofNat_lt.mp (H4 h8);refine zo EQ (zo EQ (ze List.getLast?_concat ?_));rw[List.dropLast_concat]
  conv=>whnf
  rw[bk];exact qx h8
 .have h8:g.length<=8:=Nat.not_lt.mp λh=>of_decide_eq_false h8 (Int.ofNat_lt.mpr h);have GF:g∈(D.add s e).grps:=by
   have:g∈(D.add s e).holding (s,((D.row s).length:Int)):=by rw[hg];exact aj
   exact(List.mem_filter.mp this).1
  refine zk h1.s h1.d (zkW (G.push L) (zzW hd) h1 D7 (zf8 GF h8 D7.few) λσ2 Fj Jg D0 h2=>?_);have Fa:σ2 (a.row s)=ae (.list ((D.row s).map zD++[zD e])):=Jg _ _ (λq=>by rw[q,h1.d] at EQ;cases EQ) EQ;refine ze (zB Fa) ?_
  conv=>whnf
  rw[el];exact sD.same (q h8 σ2 Fj (λx o hx hx' ex=>Jg x o hx (EC x o hx' ex)) (nn _ D0) h2)
end
section
variable{P:Hm}{X:Cx}{n:Nat}{Q:zt}{Z:XP}{U:su}
noncomputable def Aw(i:Int):Bool:=decide (0<=i)&&decide (i<=30)
theorem zeA(h:U q=ae o)(hp:U p=af):q≠p:=λe=>by rw[e,hp] at h;exact absurd (d6 h) (aA _)
theorem qP(h:U q=ae o)(hp:U p=af):U.set p o' q=ae o:=(su.wB _ _ (zeA h hp)).trans h
theorem zp(h:U q=ae o)(hp:q≠p):U.set p o' q=ae o:=(su.wB _ _ hp).trans h
noncomputable def LA.all(a:LA):List aH:=[a.self,a.dx,a.rd,a.pb,a.pk,a.pt,a.pc]
structure Lay(U U':su)(ps:List (aH×AO)):Prop where
 sub:Sub U U'
 here:∀p∈ps,U' p.1=ae p.2
 new:∀p∈ps,U p.1=af
 nd:(ps.map pO).Nodup
theorem Lay.add(h:Lay U U' ps)(hp:U' p=af):Lay U (U'.set p o) ((p,o)::ps):=by
 have hn:=h.sub.none hp;refine⟨h.sub.put hn,List.forall_mem_cons.mpr ⟨su.wA ..,λq hq=>qP (h.here q hq) hp⟩,List.forall_mem_cons.mpr ⟨hn,h.new⟩,List.nodup_cons.mpr ⟨λhm=>?_,h.nd⟩⟩;refine za (List.mem_map.mp hm) λq hq e=>?_;have:=h.here q hq;rw[e] at this;exact zeA this hp rfl
theorem Lay.upd(ps rs)(h:Lay U U' (ps++(p,o)::rs)):Lay U (U'.set p o') (ps++(p,o')::rs):=by
 have hm:∀{q:aH×AO},q∈ps++(p,o')::rs->q=(p,o')\/q∈ps++(p,o)::rs/\q.1≠p:=λ{q} hq=>by
  have nd:=h.nd;rw[aB,aY] at nd;have nd:=List.nodup_append.mp nd
  rcases List.mem_append.mp hq with hq|hq
  .exact .inr ⟨aW _ hq,λe=>nd.2.2 _ (b8 hq) _ aj e⟩
  .rcases List.mem_cons.mp hq with hq|hq
   .exact .inl hq
   .exact .inr ⟨aJ _ (al _ hq),λe=>(List.nodup_cons.mp nd.2.1).1 (show p∈rs.map pO from e▸b8 (f:=pO) hq)⟩
 have hp:U p=af:=h.new (p,o) (aJ _ aj);refine⟨h.sub.put hp,λq hq=>?_,λq hq=>?_,by have:=h.nd;rw[aB] at this ⊢;exact this⟩
 .rcases hm hq with e|⟨h1,h2⟩
  .rw[e];exact su.wA ..
  .exact zp (h.here q h1) h2
 .rcases hm hq with e|⟨h1,h2⟩
  .rw[e];exact hp
  .exact h.new q h1
theorem m0{V:Type}{a:V}{l:List V}:a∈a::l:=aj
theorem m1{V:Type}{a b:V}{l:List V}:a∈b::a::l:=al _ m0
theorem m2{V:Type}{a b c:V}{l:List V}:a∈b::c::a::l:=al _ m1
theorem m3{V:Type}{a b c d:V}{l:List V}:a∈b::c::d::a::l:=al _ m2
theorem m4{V:Type}{a b c d e:V}{l:List V}:a∈b::c::d::e::a::l:=al _ m3
theorem m5{V:Type}{a b c d e f:V}{l:List V}:a∈b::c::d::e::f::a::l:=al _ m4
theorem m6{V:Type}{a b c d e f g:V}{l:List V}:a∈b::c::d::e::f::g::a::l:=al _ m5
theorem zqX{U U':su}{i:Int}{x dx rd pb pk pt pc:aH}(h:Lay U U' [(pc,.list []),(pt,.list []),(pk,.list []),(pb,.list []),(rd,.idict [(0,.ref pb),(1,.ref pk)]),(x,.inst 245 dx),(dx,.idict [(3,.int i),(4,.ref rd),(5,.ref pt),(6,.ref pc)])]) :
  (∀y∈LA.all ⟨x,dx,rd,pb,pk,pt,pc⟩,U y=af)/\sU U' ⟨x,dx,rd,pb,pk,pt,pc⟩ ⟨[],[],i,[],[]⟩:=by
 have nd:[pc,pt,pk,pb,rd,x,dx].Nodup:=h.nd;have n:=List.nodup_cons.mp nd;have n1:=List.nodup_cons.mp n.2;have n2:=List.nodup_cons.mp n1.2;have n3:=List.nodup_cons.mp n2.2;have n4:=List.nodup_cons.mp n3.2;refine⟨List.forall_mem_cons.mpr ⟨h.new _ m5,List.forall_mem_cons.mpr ⟨h.new _ m6,List.forall_mem_cons.mpr ⟨h.new _ m4,List.forall_mem_cons.mpr ⟨h.new _ m3,List.forall_mem_cons.mpr ⟨h.new _ m2,List.forall_mem_cons.mpr ⟨h.new _ m1,List.forall_mem_cons.mpr ⟨h.new _ m0,λ_ h=>nomatch h⟩⟩⟩⟩⟩⟩⟩,h.here _ m5,h.here _ m6,h.here _ m4,h.here _ m3,h.here _ m2,h.here _ m1,h.here _ m0,λe=>n4.1 (show rd∈[x,dx] by rw[<-show dx=rd from e];exact m1),?_⟩;have r:[pb,pk,pt,pc].Nodup:=List.pairwise_reverse.mpr ((nF (oh 4 [pc,pt,pk,pb,rd,x,dx]) nd).imp λh=>bO h);exact r
theorem ztA(G:Gd X (hK P))(hd:n<500)(hi:Aw i=ag)(q:∀U' a,(∀x o,U x=ae o->U' x=ae o)->(∀x∈a.all,U x=af)->sU U' a ⟨[],[],i,[],[]⟩->Q (.ref a.self) U'):AQ X 245 178 ⟨n,ai⟩ [.int i] Q Z U:=by
 intro dx x RE hx CL;obtain⟨i1,i2⟩:=Bool.and_eq_true_iff.mp hi;refine zte G (by dsimp only;exact zd 0x4b124a414a00007d24905006 rfl hd) λL=>?_;have l0:Lay U U []:=⟨λ_ _ e=>e,(λ_ h=>nomatch h),(λ_ h=>nomatch h),.nil⟩
 have l0:=(l0.add (o:=.idict []) RE).add (p:=x) (o:=.inst 245 dx) ((su.wB _ _ CL.symm).trans hx);generalize (U.set dx (.idict [])).set x (.inst 245 dx)=U0 at l0 ⊢;refine za9 (G.push L) (by dsimp only;exact zd 0x127492948294a00007d24905006 rfl hd) (qp i1 ?_)
 conv=>whnf
 rw[i2];refine zk (l0.here _ m0) (l0.here _ m1) (jr rfl ?_);have l1:=Lay.upd [(x,.inst 245 dx)] [] l0 (o':=.idict (jl [] 3 (.int i)));generalize U0.set dx (.idict (jl [] 3 (.int i)))=σ1 at l1 ⊢;intro rd Qh;have l2:=l1.add (o:=.idict []) Qh;generalize σ1.set rd (.idict [])=σ2 at l2 ⊢;intro pb Qm;have l3:=l2.add (o:=.list []) Qm;generalize σ2.set pb (.list [])=σ3 at l3 ⊢;intro pk Jr;have l4:=l3.add (o:=.list []) Jr;generalize σ3.set pk (.list [])=σ4 at l4 ⊢;refine⟨l4.here _ m2,?_⟩;have l5:=Lay.upd [(pk,.list []),(pb,.list [])] _ l4 (o':=.idict (jl (jl [] 0 (AV.str 0,AV.ref pb).snd) 1 (AV.str 1,AV.ref pk).snd));refine zk (l5.here _ m3) (l5.here _ m4) (jr rfl ?_);have l5:=Lay.upd [(pk,.list []),(pb,.list []),_,(x,.inst 245 dx)] [] l5 (o':=.idict (jl (jl [] 3 (.int i)) 4 (.ref rd)));generalize (σ4.set rd _).set dx (.idict (jl (jl [] 3 (.int i)) 4 (.ref rd)))=σ5 at l5 ⊢;intro pt hpt;have l6:=l5.add (o:=.list []) hpt;refine zk (l6.here _ m4) (l6.here _ m5) (jr rfl ?_);have l6:=Lay.upd [(pt,.list []),(pk,.list []),(pb,.list []),_,(x,.inst 245 dx)] [] l6 (o':=.idict (jl (jl (jl [] 3 (.int i)) 4 (.ref rd)) 5 (.ref pt)));generalize (σ5.set pt (.list [])).set dx (.idict (jl (jl (jl [] 3 (.int i)) 4 (.ref rd)) 5 (.ref pt)))=σ6 at l6 ⊢;intro pc Rs;have l7:=l6.add (o:=.list []) Rs;refine zk (l7.here _ m5) (l7.here _ m6) (jr rfl ?_)
 have l7:=Lay.upd [(pc,.list []),(pt,.list []),(pk,.list []),(pb,.list []),_,(x,.inst 245 dx)] [] l7 (o':=.idict (jl (jl (jl (jl [] 3 (.int i)) 4 (.ref rd)) 5 (.ref pt)) 6 (.ref pc)));have h:=zqX l7;exact sD.same ⟨rfl,q _ ⟨x,dx,rd,pb,pk,pt,pc⟩ l7.sub h.1 h.2⟩
end
def Bf(d:zn->Int)(span:Int)(L:List (List zn)):Prop:=L.Pairwise λg g'=>∀a∈g,∀b∈g',d a+span<d b
def yr(d:zn->Int)(span:Int)(g:List zn):Prop:=∀S:zn->Prop,(∃a,a∈g/\S a)->(∀a b,a∈g->b∈g->d b<=d a+span->d a<=d b+span->S a->S b)->∀b∈g,S b
structure GI(d:zn->Int)(span:Int)(gs:List (List zn))(f:List zn)(p:Int):Prop where
 last:∃z,z∈f/\d z=p
 le:∀g∈gs++[f],∀a∈g,d a<=p
 sep:Bf d span (gs++[f])
 con:∀g∈gs++[f],yr d span g
theorem zkt(d)(span)(x):yr d span [x]:=λS h _ b hb=>za h λa ha hs=>by rw[List.mem_singleton.mp hb,<-List.mem_singleton.mp ha];exact hs
section
variable{d:zn->Int}{span:Int}{gs:List (List zn)}{f:List zn}{p:Int}{t:Tr}
theorem GI.open_(h:GI d span gs f p)(hp:p<=t.1)(ht:d t.2=t.1)(ho:span<t.1-p):GI d span (gs++[f]) [t.2] t.1:=by
 have lt:p+span<t.1:=iw ho;refine⟨⟨t.2,aj,ht⟩,λg hg a ha=>?_,List.pairwise_append.mpr ⟨h.sep,.cons (λ_ h=>nomatch h) .nil,λg hg g' Dx a ha b hb=>?_⟩,λg hg=>?_⟩
 .rcases List.mem_append.mp hg with hg|hg
  .exact bW (h.le g hg a ha) hp
  .rw[List.mem_singleton.mp hg] at ha;rw[List.mem_singleton.mp ha,ht];exact mH _
 .rw[List.mem_singleton.mp Dx] at hb;rw[List.mem_singleton.mp hb,ht];exact dV (Int.add_le_add_right (h.le g hg a ha) _) lt
 .rcases List.mem_append.mp hg with hg|hg
  .exact h.con g hg
  .rw[List.mem_singleton.mp hg];exact zkt _ _ _
theorem GI.more(h:GI d span gs f p)(h0:0<=span)(hp:p<=t.1)(ht:d t.2=t.1)(ho:¬span<t.1-p):GI d span gs (f++[t.2]) t.1:=by
 have le:t.1<=p+span:=ix (Int.not_lt.mp ho);obtain⟨z,hz,ez⟩:=h.last;have Ke:=List.pairwise_append.mp h.sep;have hf:=h.con f (aJ _ aj);refine⟨⟨t.2,aJ _ aj,ht⟩,λg hg a ha=>?_,List.pairwise_append.mpr ⟨Ke.1,.cons (λ_ h=>nomatch h) .nil,λg hg g' Dx a ha b hb=>?_⟩,λg hg=>?_⟩
 .rcases List.mem_append.mp hg with hg|hg
  .exact bW (h.le g (aW _ hg) a ha) hp
  .rw[List.mem_singleton.mp hg] at ha
   rcases List.mem_append.mp ha with ha|ha
   .exact bW (h.le f (aJ _ aj) a ha) hp
   .rw[List.mem_singleton.mp ha,ht];exact mH _
 .rw[List.mem_singleton.mp Dx] at hb;have Cu:=Ke.2.2 g hg f aj a ha
  rcases List.mem_append.mp hb with hb|hb
  .exact Cu b hb
  .rw[List.mem_singleton.mp hb,ht];have:=Cu z hz;rw[ez] at this;exact nG this hp
 .rcases List.mem_append.mp hg with hg|hg
  .exact h.con g (aW _ hg)
  .rw[List.mem_singleton.mp hg];intro S hS cl;have z1:=aW [t.2] hz;have t1:t.2∈f++[t.2]:=aJ _ aj;have cf:∀a b,a∈f->b∈f->d b<=d a+span->d a<=d b+span->S a->S b:=λa b ha hb=>cl a b (aW _ ha) (aW _ hb);have OW:S z↔S t.2:=by
    have k1:d t.2<=d z+span:=by rw[ht,ez];exact le
    have k2:d z<=d t.2+span:=by rw[ht,ez];exact bW hp (iq h0)
    exact⟨cl z t.2 z1 t1 k1 k2,cl t.2 z t1 z1 k2 k1⟩
   have Pg:S z:=za hS λa ha hs=>(List.mem_append.mp ha).elim (λha=>hf S ⟨a,ha,hs⟩ cf z hz) λha=>OW.mpr (List.mem_singleton.mp ha▸hs);intro b hb
   rcases List.mem_append.mp hb with hb|hb
   .exact hf S ⟨z,hz,Pg⟩ cf b hb
   .rw[List.mem_singleton.mp hb];exact OW.mp Pg
end
theorem zhm:qZ span (gs++[f],ae p) t=(if decide (span<t.1-p) then ((gs++[f])++[[t.2]],ae t.1) else (gs++[f++[t.2]],ae t.1)):=by
 have e:wc span (ae p) t.1=decide (span<t.1-p):=decide_eq_decide.mpr ⟨λh=>Int.lt_sub_left_of_add_lt h,λh=>iw h⟩;unfold qZ;dsimp only;rw[e];cases decide (span<t.1-p) with
 | true=>show (jV (gs++[f]++[[]]) t.2,ae t.1)=_;rw[jW];rfl
 | false=>show (jV (gs++[f]) t.2,ae t.1)=_;rw[jW];rfl
theorem zod{d:zn->Int}(h0:0<=span)(T:List Tr):∀(gs:List (List zn)) (f:List zn) (p:Int),GI d span gs f p->(∀t∈T,p<=t.1/\d t.2=t.1)->T.Pairwise (λa b=>a.1<=b.1)->Bf d span (T.foldl (qZ span) (gs++[f],ae p)).1/\∀g∈(T.foldl (qZ span) (gs++[f],ae p)).1,yr d span g:=by
 induction T with
 | nil=>exact λgs f p h _ _=>⟨h.sep,h.con⟩
 | cons t T ih=>
  intro gs f p h hT pw;have pw:=List.pairwise_cons.mp pw;have ht:=hT t aj;have OO:∀u∈T,t.1<=u.1/\d u.2=u.1:=λu hu=>⟨pw.1 u hu,(hT u (al _ hu)).2⟩
  rw[bV,zhm]
  by_cases ho:span<t.1-p
  .rw[H3 ho];exact ih _ _ _ (h.open_ ht.1 ht.2 ho) OO pw.2
  .rw[H0 ho];exact ih _ _ _ (h.more h0 ht.1 ht.2 ho) OO pw.2
theorem zpq(ht:ul t)(hu:ul u)(h:ui t<=ui u):t.1<=u.1:=
 Int.not_lt.mp λCu=>absurd h (Nat.not_le.mpr ((zbb (qm hu.hi) (qm ht.hi)).mpr (.inl ((zbb (bA (dK _)) (bA (dK _))).mpr (.inl ((toNat_lt hu.day ht.day).mpr Cu))))))
theorem zok(he:sO es)(hf:sO fs):(ti es fs).Pairwise λa b=>a.1<=b.1:=
 (zgM ui (uu es fs)).imp_of_mem λha hb h=>zpq (qI he hf (inO_mem.mp ha)).1 (qI he hf (inO_mem.mp hb)).1 h
noncomputable def uz(D:sJ)(m:zn):Int:=((D.row m.1).getD m.2.toNat (0,0)).1
theorem zkG(ho:t5 D)(ht:t∈ti D.es D.fs):uz D t.2=t.1:=by
 refine zl (qI ho.es ho.fs (inO_mem.mp ht)).2 λk e _ h=>?_;unfold uz;rw[e,dI];exact h
theorem zf9{D:sJ}(ho:t5 D)(h0:0<=D.span):Bf (uz D) D.span D.grps/\∀g∈D.grps,yr (uz D) D.span g:=by
 unfold sJ.grps grps;have hd:∀t∈ti D.es D.fs,uz D t.2=t.1:=λt ht=>zkG ho ht;have pw:=zok ho.es ho.fs;generalize ti D.es D.fs=T at hd pw;cases T with
 | nil=>exact⟨.nil,λ_ h=>nomatch h⟩
 | cons t T=>
  have pw:=List.pairwise_cons.mp pw;have ht:=hd t aj;refine zod h0 T [] [t.2] t.1 ⟨⟨t.2,aj,ht⟩,λg hg a ha=>?_,.cons (λ_ h=>nomatch h) .nil,λg hg=>?_⟩ (λu hu=>⟨pw.1 u hu,hd u (al _ hu)⟩) pw.2
  .rw[List.mem_singleton.mp hg] at ha;rw[List.mem_singleton.mp ha,ht];exact mH _
  .rw[List.mem_singleton.mp hg];exact zkt _ _ _
theorem zvs{V:Type}{R:V->V->Prop}{l:List V}(h:l.Pairwise R){a b:V}(ha:a∈l)(hb:b∈l):a=b\/R a b\/R b a:=by
 induction l with
 | nil=>cases ha
 | cons x l ih=>
  have h:=List.pairwise_cons.mp h
  rcases List.mem_cons.mp ha with e|i
  .rcases List.mem_cons.mp hb with e'|i'
   .exact .inl (e.trans e'.symm)
   .exact .inr (.inl (e▸h.1 b i'))
  .rcases List.mem_cons.mp hb with e'|i'
   .exact .inr (.inr (e'▸h.1 a i))
   .exact ih h.2 i i'
theorem zdZ(ho:t5 D)(h0:0<=D.span)(hg:g∈D.grps)(Dx:g'∈D.grps)(hy:y∈g)(hz:z∈g')(h1:uz D z<=uz D y+D.span)(h2:uz D y<=uz D z+D.span):z∈g:=by
 rcases zvs (zf9 ho h0).1 hg Dx with e|h|h
 .rw[e];exact hz
 .exact absurd (h y hy z hz) (Int.not_lt.mpr h1)
 .exact absurd (h z hz y hy) (Int.not_lt.mpr h2)
theorem zpi(h:m∈pk ms r):m∈ms:=by
 have Dj:∀n r,m∈uK ms n r->m∈ms:=λn=>by
  induction n with
  | zero=>intro r h;cases h
  | succ n ih=>
   intro r h;cases r with
   | nil=>cases h
   | cons x t=>
    unfold uK at h;cases hg:uQ ms (x::t) with
    | nil=>rw[hg] at h;exact ih t h
    | cons z zs=>
     rw[hg] at h
     rcases List.mem_cons.mp h with rfl|h
     .exact(kG (by rw[hg];exact aj)).2.2.1
     .exact ih _ h
 exact Dj _ _ h
theorem zoJ(h:t5 D)(hg:va g D.es.length D.fs.length)(hl:D.tick.length<=992):t5 (D.pick g):=by
 have ID:=zph ((v8 D.es D.fs D.span g).filter λm=>!decide (m∈D.clos)) g;have Fi:=bL (λm=>!decide (qA m∈g)) D.tick;have h8:=hg.few;refine⟨h.es,h.fs,h.few,λm hm=>?_,h.clos,?_,h.cl⟩
 .rcases List.mem_append.mp hm with hm|hm
  .exact h.tick m (List.mem_filter.mp hm).1
  .exact zpZ hg (List.mem_filter.mp (zpi hm)).1
 .show ((D.tick.filter _)++pk _ g).length<=1000;rw[aq];exact cC (ap Fi hl) (ap ID h8)
theorem zam(D:sJ)(s)(e):(D.add s e).span=D.span:=by cases s<;>rfl
noncomputable abbrev C3(m:Mt):Nat:=(zr m).length
noncomputable def AM(r:List zn)(m:Mt):List zn:=r.filter λy=>!decide (y∈zr m)
noncomputable def yi(S:List Mt):Nat:=(S.map C3).sum
structure vP(r:List zn)(ms S:List Mt):Prop where
 sub:∀m∈S,m∈ms
 fit:∀m∈S,∀y∈zr m,y∈r
 dis:S.Pairwise λa b=>∀y∈zr a,y∉zr b
theorem zpV(p:S.Perm T):yi S=yi T:=by
 unfold yi
 induction p with
 | nil=>rfl
 | cons x p ih=>simp[ih]
 | swap x y l=>simp;exact zc 0x8140d041a0282 rfl
 | trans p q h1 h2=>rw[h1,h2]
theorem zd1(h:∀y∈zr a,y∉zr b):∀y∈zr b,y∉zr a:=λy hy E4=>h y E4 hy
theorem vP.split(P:vP r ms S)(h:m∈S):yi S=C3 m+yi (S.erase m)/\vP (AM r m) ms (S.erase m):=by
 have p:=List.perm_cons_erase h;have d:=(p.pairwise_iff (R:=λa b:Mt=>∀y∈zr a,y∉zr b) (λh=>zd1 h)).mp P.dis;obtain⟨d1,d2⟩:=List.pairwise_cons.mp d;refine⟨by rw[zpV p];rfl,λa ha=>P.sub a (gi ha),λa ha y hy=>?_,d2⟩;unfold AM;rw[List.mem_filter];exact⟨P.fit a (gi ha) y hy,by simpa using zd1 (d1 a ha) y hy⟩
section
variable{ms:List Mt}
end
theorem zq1(h:qF r m=ae b):(∃x t,r=x::t/\x∈zr m)/\(∀y∈zr m,y∈r)/\b=AM r m:=by
 cases r with
 | nil=>exact nos h
 | cons x t=>
  unfold qF at h;dsimp only at h;split at h
  .rename_i hc;cases h;exact zu (zaE x t rfl hc.1) hc.2 rfl
  .exact nos h
theorem zro(ms):∀{r:List zn},vP r ms (pk ms r):=by
 intro r
 induction hl:r.length using Nat.strongRecOn generalizing r with
 | _ n ih=>
  cases r with
  | nil=>rw[zpj];exact⟨(λm hm=>nomatch hm),(λm hm=>nomatch hm),.nil⟩
  | cons x t=>
   rw[au] at hl;cases hg:uQ ms (x::t) with
   | nil=>
    rw[zkX hg];have P:=ih t.length (zFB hl) rfl;exact⟨P.sub,λm hm y hy=>al _ (P.fit m hm y hy),P.dis⟩
   | cons z zs=>
    rw[zkY hg];refine zI (kG (ms:=ms) (r:=x::t) (z:=z) (by rw[hg];exact aj)) λ_ h2 h3 h4=>?_;have Cu:=qG h2;rw[au] at Cu;refine jg (zq1 h4) λ_ h5 h6=>?_;have P:=ih z.2.length (zFH hl Cu) rfl;refine⟨λm hm=>?_,λm hm y hy=>?_,List.pairwise_cons.mpr ⟨λm hm y hy E4=>?_,P.dis⟩⟩
    .rcases List.mem_cons.mp hm with rfl|hm
     .exact h3
     .exact P.sub m hm
    .rcases List.mem_cons.mp hm with rfl|hm
     .exact h5 y hy
     .have:=P.fit m hm y hy;rw[h6] at this;exact(List.mem_filter.mp this).1
    .have:=P.fit m hm y E4;rw[h6] at this;have:=(List.mem_filter.mp this).2;simp[hy] at this
theorem zn4{V:Type}{gs:List (List V)}(h:gs.flatten.Nodup){g g':List V}(hg:g∈gs)(Dx:g'∈gs){x:V}(hx:x∈g)(hx':x∈g'):g=g':=by
 induction gs with
 | nil=>cases hg
 | cons g1 gs ih=>
  rw[List.flatten_cons,fU] at h;refine jg h λh1 h2 h3=>?_
  rcases List.mem_cons.mp hg with e|i
  .rcases List.mem_cons.mp Dx with e'|i'
   .rw[e,e']
   .exact absurd rfl (h3 x (e▸hx) x (List.mem_flatten.mpr (zf g' i' hx')))
  .rcases List.mem_cons.mp Dx with e'|i'
   .exact absurd rfl (h3 x (e'▸hx') x (List.mem_flatten.mpr (zf g i hx)))
   .exact ih h2 i i'
theorem zbN(D:sJ):D.grps.flatten.Nodup:=by unfold sJ.grps;rw[km];exact zfm _ _
theorem zoh{D:sJ}(hg:g∈D.grps)(Dx:g'∈D.grps)(hx:x∈g)(hx':x∈g'):g=g':=zn4 (zbN D) hg Dx hx hx'
theorem zao(h0:0<=p)(h1:p<es.length):qN (es++[e]) p=qN es p/\zT (es++[e]) p=zT es p:=by
 unfold qN zT;have:p.toNat<es.length:=zyy h0 h1;rw[aF,bE this,<-aF];exact⟨rfl,rfl⟩
theorem zdD{f f':Int->Int}{l:List Int}(h:∀p∈l,f p=f' p):l.map f=l.map f':=cw h
theorem zqv{D:sJ}{m:Mt}(h1:∀p∈m.1,0<=p/\p<D.es.length)(h2:∀p∈m.2,0<=p/\p<D.fs.length):tW (D.add s e).es (D.add s e).fs (D.add s e).span m=tW D.es D.fs D.span m:=by
 have a1:m.1.map (zT (D.add s e).es)=m.1.map (zT D.es)/\m.1.map (qN (D.add s e).es)=m.1.map (qN D.es):=by
  cases s with
  | false=>exact⟨zdD λp hp=>(zao (h1 p hp).1 (h1 p hp).2).2,zdD λp hp=>(zao (h1 p hp).1 (h1 p hp).2).1⟩
  | true=>exact⟨rfl,rfl⟩
 have a2:m.2.map (zT (D.add s e).fs)=m.2.map (zT D.fs)/\m.2.map (qN (D.add s e).fs)=m.2.map (qN D.fs):=by
  cases s with
  | false=>exact⟨rfl,rfl⟩
  | true=>exact⟨zdD λp hp=>(zao (h2 p hp).1 (h2 p hp).2).2,zdD λp hp=>(zao (h2 p hp).1 (h2 p hp).2).1⟩
 unfold tW qS;rw[a1.1,a1.2,a2.1,a2.2,zam]
theorem zfj{D:sJ}(hg:g∈D.grps)(hm:m∈g):0<=m.2/\m.2<(D.row m.1).length:=by
 have:m∈(ti D.es D.fs).map (·.2):=by rw[<-km D.es D.fs D.span];exact List.mem_flatten.mpr (zf g hg hm)
 refine za (mem_inO.mp this) λk h1 h2=>?_;unfold sJ.row;rw[h1];exact zb 0x3948334083280902905006 rfl h2
theorem zcl{D:sJ}{m:zn}(h0:0<=m.2)(h1:m.2<(D.row m.1).length):∃g∈D.grps,m∈g:=by
 exact zm (zbO D (m:=m) (k:=m.2.toNat) (y24 h0) (zyy h0 h1)) λg gs _ h2 h3=>zf g h2 h3
structure tG(D:sJ)(m:Mt):Prop where
 sm:tN m
 r1:tA m.1 D.es.length
 r2:tA m.2 D.fs.length
 one:fk m.1.length m.2.length=1
 fit:tW D.es D.fs D.span m=ag
structure Inv(D:sJ):Prop where
 ok:t5 D
 lo:0<=D.span
 hi:D.span<=30
 few:∀g∈D.grps,g.length<=8
 apart:D.tick.Pairwise λa b=>∀y∈zr a,y∉zr b
 fits:∀m∈D.tick,tG D m
 free:∀m∈D.tick,m∉D.clos
noncomputable def sJ.able(D:sJ)(g:List zn):List Mt:=(v8 D.es D.fs D.span g).filter λm=>!decide (m∈D.clos)
theorem tG.go(h:tG D m):xl m:=by
 refine(zu h.sm (λe=>?_) (λe=>?_))<;>have:=h.one<;>rw[e,bG] at this<;>simp at this
theorem mem_marks:y∈zr m↔(y.1=ai/\y.2∈m.1)\/(y.1=ag/\y.2∈m.2):=by
 obtain⟨b,k⟩:=y;unfold zr;rw[bM,fM,fM];constructor
 .rintro(⟨x,hx,e⟩|⟨x,hx,e⟩)<;>cases e
  .exact .inl ⟨rfl,hx⟩
  .exact .inr ⟨rfl,hx⟩
 .rintro(⟨h1,h2⟩|⟨h1,h2⟩)
  .have h1:b=ai:=h1;subst h1;exact .inl (zf k h2 rfl)
  .have h1:b=ag:=h1;subst h1;exact .inr (zf k h2 rfl)
theorem zch(h:xl m):zr m≠[]:=λe=>by
 have:=congrArg dH e;unfold zr at this;rw[aq,am,bG] at this;exact h.2.1 (List.length_eq_zero_iff.mp (zxs this))
theorem zaq(h:zr m≠[]):qA m∈zr m:=by
 unfold qA;cases hm:zr m with
 | nil=>exact absurd hm h
 | cons y l=>exact aj
theorem zjK(h:tA l n):l.Nodup:=h.1.imp λh e=>zFr h e
theorem zkQ(hg:va g D.es.length D.fs.length)(h:m∈v8 D.es D.fs D.span g):tG D m/\∀y∈zr m,y∈g:=by
 have h1:=(zR ..).mem_iff.mp h;refine qq (ziB hg h1) λa b c d e=>⟨⟨a,b,c,d,e⟩,λy hy=>?_⟩
 refine za (List.mem_flatMap.mp h1) λz _ hz=>qq (mem_bySz.mp hz) λ_ u1 _ u2 _=>?_;obtain⟨s,k⟩:=y
 rcases mem_marks.mp hy with⟨h2,h3⟩|⟨h2,h3⟩
 .have h2:s=ai:=h2;subst h2;exact ups_mem.mp (u1.2 k h3)
 .have h2:s=ag:=h2;subst h2;exact ups_mem.mp (u2.2 k h3)
theorem zdP{D:sJ}(h:m∈D.able g):m∈v8 D.es D.fs D.span g/\m∉D.clos:=by
 obtain⟨h1,h2⟩:=List.mem_filter.mp h;exact⟨h1,by simpa using h2⟩
theorem zof(h:t5 D)(hg:g∈D.grps)(h8:g.length<=8):va g D.es.length D.fs.length:=zf8 hg h8 h.few
theorem zlg(D:sJ)(s)(e):D.es.length<=(D.add s e).es.length/\D.fs.length<=(D.add s e).fs.length:=by
 cases s
 .exact⟨by show _<=(D.es++[e]).length;rw[aq];exact zkf,ar _⟩
 .exact⟨ar _,by show _<=(D.fs++[e]).length;rw[aq];exact zkf⟩
theorem zn2{D:sJ}{s:Bool}{e:td}{m:Mt}(h:tG D m):tG (D.add s e) m:=by
 have hl:=zlg D s e;exact⟨h.sm,⟨h.r1.1,λp hp=>by have:=h.r1.2 p hp;exact zFs hl this⟩,⟨h.r2.1,λp hp=>by have:=h.r2.2 p hp;exact zFt hl this⟩,h.one,by rw[zqv h.r1.2 h.r2.2];exact h.fit⟩
theorem zaZ(D:sJ)(s)(e):(D.add s e).tick=D.tick:=by cases s<;>rfl
theorem zdQ(D:sJ)(s)(e):(D.add s e).clos=D.clos:=by cases s<;>rfl
section
variable{D:sJ}{s:Bool}{e:td}{g:List zn}
theorem zhQ(F:tG D m)(hy:y∈zr m):0<=y.2/\y.2<(D.row y.1).length:=by
 obtain⟨b,p⟩:=y
 rcases mem_marks.mp hy with⟨h1,h2⟩|⟨h1,h2⟩
 .have h1:b=ai:=h1;subst h1;exact F.r1.2 p h2
 .have h1:b=ag:=h1;subst h1;exact F.r2.2 p h2
theorem zhP(hy:y∈zr m):uz D y∈qS D.es D.fs m:=by
 obtain⟨b,p⟩:=y;unfold qS
 rcases mem_marks.mp hy with⟨h1,h2⟩|⟨h1,h2⟩
 .have h1:b=ai:=h1;subst h1;exact aW _ (b8 h2)
 .have h1:b=ag:=h1;subst h1;exact aJ _ (b8 h2)
theorem ztE(ho:t5 D)(h0:0<=D.span)(hg:g∈D.grps)(F:tG D m)(hf:qA m∉g):∀y∈zr m,y∉g:=λy hy h=>by
 have fi:=zaq (zch F.go);have r:=zhQ F fi;refine za (zcl r.1 r.2) λg' Dx hm=>?_;have fit:=F.fit;unfold tW at fit;have sp:=List.all_eq_true.mp ((Bool.and_eq_true_iff.mp fit).2);have cl:∀{a b:zn},a∈zr m->b∈zr m->uz D a<=uz D b+D.span:=λha hb=>ix (H4 (List.all_eq_true.mp (sp _ (zhP ha)) _ (zhP hb)));exact hf (zdZ ho h0 hg Dx h hm (cl fi hy) (cl hy fi))
theorem zhZ(ho:t5 D)(lo:0<=D.span)(hi:D.span<=30)(few:∀g∈D.grps,g.length<=8)(apart:D.tick.Pairwise λa b=>∀y∈zr a,y∉zr b)(fits:∀m∈D.tick,tG D m)(free:∀m∈D.tick,m∉D.clos)
  (hg:g∈D.grps)(tl:D.tick.length<=992):Inv (D.pick g):=by
 have h8:=few g hg;have GA:=zof ho hg h8;have P:=zro (D.able g) (r:=g);refine⟨zoJ ho GA tl,lo,hi,few,?_,λm hm=>?_,λm hm=>?_⟩
 .refine List.pairwise_append.mpr (zu (apart.sublist mW) P.dis (λa ha b hb y hy E4=>?_));obtain⟨h1,h2⟩:=List.mem_filter.mp ha;exact ztE ho lo hg (fits a h1) (by simpa using h2) y hy (P.fit b hb y E4)
 .rcases List.mem_append.mp hm with hm|hm
  .have:=fits m (List.mem_filter.mp hm).1;exact⟨this.sm,this.r1,this.r2,this.one,this.fit⟩
  .have:=(zkQ GA (zdP (P.sub m hm)).1).1;exact⟨this.sm,this.r1,this.r2,this.one,this.fit⟩
 .rcases List.mem_append.mp hm with hm|hm
  .exact free m (List.mem_filter.mp hm).1
  .exact(zdP (P.sub m hm)).2
theorem zkl{y:zn}(h0:0<=y.2)(h1:y.2<(D.row y.1).length):uz (D.add s e) y=uz D y:=by
 obtain⟨b,p⟩:=y;have QA:∀{es:List td},p<es.length->((es++[e]).getD p.toNat (0,0)).1=(es.getD p.toNat (0,0)).1:=λh=>(zao h0 h).1;cases s<;>cases b<;>first|rfl|exact QA h1
theorem zrj{y:zn}(h:0<=y.2/\y.2<((D.add s e).row y.1).length)(hn:(s,((D.row s).length:Int))≠y):0<=y.2/\y.2<(D.row y.1).length:=by
 obtain⟨b,p⟩:=y
 by_cases hb:b=s
 .subst hb;have h2:p<(((D.add b e).row b).length:Int):=h.2;rw[zb4,aq,aG] at h2;exact⟨h.1,Int.lt_iff_le_and_ne.mpr ⟨Int.le_of_lt_add_one h2,λe=>hn (congrArg (Prod.mk b) (d6 e))⟩⟩
 .have e1:(D.add s e).row b=D.row b:=by cases s<;>cases b<;>first|rfl|exact absurd rfl hb
  exact⟨h.1,by have:=h.2;rw[show (D.add s e).row ((b,p):zn).1=D.row b from e1] at this;exact this⟩
theorem zkm(h:Inv D)(CM:t5 (D.add s e))(hg:g∈(D.add s e).grps)(hm:(s,((D.row s).length:Int))∈g)(h8:g.length<=8):∀g'∈(D.add s e).grps,g'.length<=8:=λg' Dx=>by
 by_cases hn:(s,((D.row s).length:Int))∈g'
 .rw[zoh Dx hg hn hm];exact h8
 .cases hx:g' with
  | nil=>exact aE _
  | cons x l=>
   rw[<-hx];have OH:x∈g':=by rw[hx];exact aj
   have De:∀y∈g',0<=y.2/\y.2<(D.row y.1).length:=λy hy=>zrj (zfj Dx hy) λq=>hn (q▸hy);refine za (zcl (De x OH).1 (De x OH).2) λG hG Rq=>?_;have H9:=zam D s e;have all:∀y∈g',y∈G:=(zf9 CM (by rw[H9];exact h.lo)).2 g' Dx (·∈G) ⟨x,OH,Rq⟩ λa b ha hb h1 h2 QP=>by
    have oa:=De a ha;have ob:=De b hb;rw[zkl oa.1 oa.2,zkl ob.1 ob.2,H9] at h1 h2;exact za (zcl ob.1 ob.2) λG' QD RN=>zdZ h.ok h.lo hG QD QP RN h1 h2
   exact ap (zbi (zaf (zbN _) Dx) all) (h.few G hG)
theorem zk0(h:Inv D)(CM:t5 (D.add s e))(hg:g∈(D.add s e).grps)(hm:(s,((D.row s).length:Int))∈g)(h8:g.length<=8)(tl:D.tick.length<=992):Inv ((D.add s e).pick g):=by
 refine zhZ CM (by rw[zam];exact h.lo) (by rw[zam];exact h.hi) (zkm h CM hg hm h8) ?_ ?_ ?_ hg (by rw[zaZ];exact tl)
 .rw[zaZ];exact h.apart
 .intro m hm;rw[zaZ] at hm;exact zn2 (h.fits m hm)
 .intro m hm;rw[zaZ] at hm;rw[zdQ];exact h.free m hm
end
noncomputable def sJ.take(D:sJ)(m:Mt):sJ:={ D with tick:=D.tick.erase m,clos:=D.clos++[m] }
theorem zaQ(h:Inv D):D.tick.Nodup:=by
 refine(h.apart.imp_of_mem (S:=λa b=>a≠b) λ{a b} ha hb hd e=>?_);subst e;exact hd _ (zaq (zch (h.fits a ha).go)) (zaq (zch (h.fits a ha).go))
theorem zpS(h:Inv D)(hm:m∈D.tick)(hc:D.clos.length<1000):Inv (D.take m):=by
 have nd:=zaQ h;have sub:∀a∈D.tick.erase m,a∈D.tick:=λa ha=>gi ha;have ok:=h.ok;refine⟨⟨ok.es,ok.fs,ok.few,λa ha=>ok.tick a (sub a ha),λa ha=>?_,?_,?_⟩,h.lo,h.hi,h.few,h.apart.sublist List.erase_sublist,λa ha=>?_,λa ha hc'=>?_⟩
 .rcases List.mem_append.mp ha with ha|ha
  .exact ok.clos a ha
  .rw[List.mem_singleton.mp ha];exact ok.tick m hm
 .exact ap (List.erase_sublist.length_le) ok.tl
 .show (D.clos++[m]).length<=1000;rw[aq,aG];exact zd 0x1f44920a0000fa24905006 rfl hc
 .have:=h.fits a (sub a ha);exact⟨this.sm,this.r1,this.r2,this.one,this.fit⟩
 .rcases List.mem_append.mp hc' with hc'|hc'
  .exact h.free a (sub a ha) hc'
  .rw[List.mem_singleton.mp hc'] at ha;exact(List.Nodup.mem_erase_iff nd).mp ha |>.1 rfl
theorem zfa{V β:Type}{R:β->β->Prop}{f:V->List β}{l:List V}(h1:∀a∈l,(f a).Pairwise R)(h2:l.Pairwise λa b=>∀x∈f a,∀y∈f b,R x y):(l.flatMap f).Pairwise R:=by
 induction l with
 | nil=>exact .nil
 | cons a l ih=>
  obtain⟨h3,h4⟩:=List.pairwise_cons.mp h2;rw[cM,bw];refine zu (h1 a aj) (ih (λb hb=>h1 b (al _ hb)) h4) (λx hx y hy=>?_);exact za (List.mem_flatMap.mp hy) λb hb hy=>h3 b hb x hx y hy
noncomputable def yQ(span:Int)(ED:Option Int)(d:Int):Bool:=match ED with|none=>ai|some p=>decide (span<d-p)
noncomputable def vu(span:Int)(ED:Option Int)(c:Nat)(d:Int):Nat:=match yQ span ED d with|true=>1|false=>c+1
noncomputable def uZ(span:Int)(ED:Option Int)(c w:Nat)(ds:List Int):Nat:=match ds with|[]=>w|d::ds=>uZ span (ae d) (vu span ED c d) (fF w (vu span ED c d)) ds
def xR(gs:List (List zn)):Prop:=∃x∈gs,8<x.length
theorem zdS:xR (gs++[g])↔xR gs\/8<g.length:=
 ⟨λh=>za h λx hx h8=>(List.mem_append.mp hx).elim (λhx=>.inl ⟨x,hx,h8⟩) λhx=>.inr (List.mem_singleton.mp hx▸h8),λh=>h.elim (λh=>za h λx hx h8=>⟨x,aW _ hx,h8⟩) λh=>⟨g,aJ _ aj,h⟩⟩
theorem zkL:8<fF a b↔8<a\/8<b:=by
 rcases lA a b with h|h
 .rw[oB h];exact⟨.inr,λq=>q.elim (λq=>aS q h) id⟩
 .rw[pj h];exact⟨.inl,λq=>q.elim id λq=>aS q h⟩
theorem zsS(T:List Tr):∀(gs:List (List zn)) (g:List zn) (p:Int) (w:Nat),(8<w↔xR (gs++[g]))->(8<uZ span (ae p) g.length w (T.map (·.1))↔xR (T.foldl (qZ span) (gs++[g],ae p)).1):=by
 induction T with
 | nil=>exact λgs g p w h=>h
 | cons t T ih=>
  intro gs g p w h;rw[aY,bV,zhm];show 8<uZ span (ae t.1) (vu span (ae p) g.length t.1) (fF w (vu span (ae p) g.length t.1)) _↔_;unfold vu;rw[show yQ span (ae p) t.1=decide (span<t.1-p) from rfl];cases decide (span<t.1-p) with
  | true=>exact ih (gs++[g]) [t.2] t.1 (fF w 1) (by rw[zdS,zkL,h];exact or_congr mK ⟨λh=>absurd h (by decide),λh=>absurd h (Nat.not_lt.mpr (by rw[aG];decide))⟩)
  | false=>
   have:=ih gs (g++[t.2]) t.1 (fF w (g.length+1)) (by
    rw[zdS,zkL,h,zdS,aq,aG,or_assoc];exact or_congr mK ⟨λh=>h.elim eH id,.inr⟩)
   rw[aq,aG] at this;exact this
theorem zls(es fs)(span):8<uZ span af 0 0 ((ti es fs).map (·.1))↔xR (grps es fs span):=by
 unfold grps;cases ti es fs with
 | nil=>exact⟨λh=>absurd (show 8<0 from h) (by decide),λh=>za h λx hx _=>nomatch hx⟩
 | cons t T=>exact zsS T [] [t.2] t.1 1 ⟨λh=>absurd h (by decide),λh=>za h λx hx h8=>by rw[List.mem_singleton.mp hx] at h8;exact absurd h8 (Nat.not_lt.mpr (by rw[aG];decide))⟩
theorem zeM(s)(es):(vU s es).map (·.1)=es.map (·.1):=by
 unfold vU;rw[aL];refine fV λi=>?_;rw[bQ,bQ]
 by_cases h:i<es.length
 .rw[mX h,aC h];show ae (es.getD i (0,0)).1=ae _;rw[aF,aC h];rfl
 .rw[cA (by rw[be];exact Nat.not_lt.mp h),cA (Nat.not_lt.mp h)];rfl
theorem znp(D:sJ)(s)(e):((D.add s e).es.map (·.1)++(D.add s e).fs.map (·.1)).Perm ((D.es++D.fs).map (·.1)++[e.1]):=by
 rw[aB];cases s with
 | false=>
  show ((D.es++[e]).map (·.1)++D.fs.map (·.1)).Perm _;rw[aB,aR,aR];exact dC _ eB
 | true=>
  show (D.es.map (·.1)++(D.fs++[e]).map (·.1)).Perm _;rw[aB,aR];exact il _
theorem znP{D:sJ}(h:t5 (D.add s e)):srt du ((D.es++D.fs).map (·.1)++[e.1])=(ti (D.add s e).es (D.add s e).fs).map (·.1):=by
 have p1:((ti (D.add s e).es (D.add s e).fs).map (·.1)).Perm ((D.es++D.fs).map (·.1)++[e.1]):=by
  refine((zR ui (uu (D.add s e).es (D.add s e).fs)).map (·.1)).trans ?_;unfold uu;rw[aB,zeM,zeM];exact znp D s e
 have nn:∀d∈(ti (D.add s e).es (D.add s e).fs).map (·.1),0<=d:=λd hd=>by
  refine za (List.mem_map.mp hd) λt ht e1=>zl (qI h.es h.fs (inO_mem.mp ht)).2 λk _ hk e2=>?_;rw[<-e1,<-e2];cases hb:t.2.1<;>rw[hb] at hk
  .exact(h.es.day _ (getD_mem hk)).1
  .exact(h.fs.day _ (getD_mem hk)).1
 refine(zcH (λx hx y hy e=>?_) p1 ?_).symm
 .have h1:=nn x (p1.mem_iff.mpr hx);have h2:=nn y (p1.mem_iff.mpr hy);exact qb 0x100c28098080983b06c46 rfl e h1 h2
 .exact List.pairwise_map.mpr ((zok h.es h.fs).imp λh=>Int.toNat_le_toNat h)
noncomputable def sd(s:Bool)(m:Mt):List Int:=if s then m.2 else m.1
theorem sd_mem:x∈sd s m↔(s,x)∈zr m:=by
 rw[mem_marks];cases s with
 | false=>exact⟨λh=>.inl ⟨rfl,h⟩,λh=>h.elim (·.2) λh=>nomatch h.1⟩
 | true=>exact⟨λh=>.inr ⟨rfl,h⟩,λh=>h.elim (λh=>nomatch h.1) (·.2)⟩
noncomputable def te(s:Bool)(T:List Mt):List Int:=T.flatMap (sd s)
section
variable{D:sJ}
theorem zk6(h:tG D m):tA (sd s m) (D.row s).length:=by
 cases s with
 | false=>exact h.r1
 | true=>exact h.r2
theorem zfK(I:Inv D)(s):(te s (srt sM D.tick)).Nodup:=by
 have p:=zR sM D.tick;exact zfa (R:=λx y=>x≠y) (λm hm=>zjK (zk6 (I.fits m (p.mem_iff.mp hm)))) (((p.pairwise_iff λ{a b} h=>zd1 h).mpr I.apart).imp λh x hx y hy e=>h _ (sd_mem.mp hx) (e▸sd_mem.mp hy))
theorem zld(I:Inv D)(h:x∈te s (srt sM D.tick)):0<=x/\x<(D.row s).length:=by
 exact za (List.mem_flatMap.mp h) λm hm hx=>(zk6 (I.fits m ((zR sM D.tick).mem_iff.mp hm))).2 x hx
theorem zj6(I:Inv D)(s):(te s (srt sM D.tick)).length<=(D.row s).length:=by
 have:=zbi (zfK I s) (u:=(bJ (D.row s).length).map dD) λx hx=>by
  have h:=zld I hx;refine List.mem_map.mpr ⟨x.toNat,List.mem_range.mpr ((sj h.1).mpr h.2),cN h.1⟩
 rwa [am,be] at this
theorem zn3{V β:Type}{f g:V->List β}{T:List V}(h:∀m∈T,(f m).length<=3*(g m).length):(T.flatMap f).length<=3*(T.flatMap g).length:=by
 induction T with
 | nil=>exact ar _
 | cons m T ih=>
  rw[cM,cM,aq,aq,Nat.mul_add];exact cC (h m aj) (ih λx hx=>h x (al _ hx))
theorem znb(I:Inv D)(s):(te s (srt sM D.tick)).length<=3*(te (!s) (srt sM D.tick)).length:=by
 refine zn3 λm hm=>?_;have F:=I.fits m ((zR sM D.tick).mem_iff.mp hm);have h1:m.1.length<=3:=F.sm.1.1;have h2:m.2.length<=3:=F.sm.2.1;have h3:=F.one;cases s with
 | false=>show m.1.length<=3*m.2.length;exact zb 0x2000076001210604658006 rfl h1 h3
 | true=>show m.2.length<=3*m.1.length;exact zb 0x2000076001200e04658006 rfl h2 h3
theorem zrJ(I:Inv D)(s)(h:D.es.length+D.fs.length<=24):(te s (srt sM D.tick)).length<=18:=by
 have h1:=zj6 I ai;have h2:=zj6 I ag;have h3:=znb I s;have h1:(te ai (srt sM D.tick)).length<=D.es.length:=h1;have h2:(te ag (srt sM D.tick)).length<=D.fs.length:=h2;cases s with
 | false=>
  have h3:(te ai (srt sM D.tick)).length<=3*(te ag (srt sM D.tick)).length:=h3;generalize (te ai (srt sM D.tick)).length=a at *;generalize (te ag (srt sM D.tick)).length=b at *;exact zg 0x4a4000c0000ec0018430182001800062420d006 rfl h h1 h2 h3
 | true=>
  have h3:(te ag (srt sM D.tick)).length<=3*(te ai (srt sM D.tick)).length:=h3;generalize (te ai (srt sM D.tick)).length=a at *;generalize (te ag (srt sM D.tick)).length=b at *;exact zg 0x4a4000c0000ec0018400182301800062420d006 rfl h h1 h2 h3
theorem zoF(s):D.left s=(bJ (D.row s).length).filter λi:Nat=>!decide ((i:Int)∈te s (srt sM D.tick)):=by
 unfold sJ.left;refine oy λi _=>congrArg Bool.not (decide_eq_decide.mpr ?_);unfold sJ.told te;rw[gw,gw];constructor
 .exact λh=>za h λm hm hx=>⟨m,(zR sM D.tick).mem_iff.mpr hm,sd_mem.mpr hx⟩
 .exact λh=>za h λm hm hx=>⟨m,(zR sM D.tick).mem_iff.mp hm,sd_mem.mp hx⟩
theorem ztU(I:Inv D):(srt sM D.tick).Pairwise λa b=>sM a<sM b:=by
 have p:=zR sM D.tick;have nd:(srt sM D.tick).Nodup:=p.nodup_iff.mpr (zaQ I);exact((zgM sM D.tick).and nd).imp_of_mem λ{a b} ha hb h=>im h.1 λe=>h.2 (zgw (I.fits a (p.mem_iff.mp ha)).sm (I.fits b (p.mem_iff.mp hb)).sm e)
theorem zqx(h:∀m∈ms,tN m)(p):(srt sM ms).filter p=srt sM (ms.filter p):=
 zcH (λx hx y hy=>zgw (h x (List.mem_filter.mp hx).1) (h y (List.mem_filter.mp hy).1)) ((zR sM ms).filter p) ((zgM sM ms).filter p)
theorem zlw(I:Inv D)(m):D.tick.erase m=D.tick.filter λx=>!decide (x=m):=by
 rw[List.Nodup.erase_eq_filter (zaQ I)];refine oy λx _=>congrArg Bool.not ?_
 by_cases h:x=m
 .rw[H3 h,beq_iff_eq.mpr h]
 .rw[H0 h,beq_eq_false_iff_ne.mpr h]
end
section
variable{P:Hm}{X:Cx}{n:Nat}{Q:zt}{Z:XP}{U:su}
theorem zcL{xs:List AV}{c:Int}(m)(h:(xs.length:Int)=m)(hp:0<m):∃v,v∈xs/\jM xs (c.fmod m)=ae v:=by
 have h1:=bd c hp;have h2:=bu c hp;obtain⟨j,hj⟩:=d7 h1;have hl:j<xs.length:=zBW h h2 hj;exact zf (xs[j]) (cH hl) (by rw[hj];exact atIdx_nat.trans (aC hl))
theorem zkp(c:Int):∃s:Bool,jM [AV.str 0,.str 1] (c.fmod 2)=ae (.str s.toNat):=by
 refine za (zcL (c:=c) (xs:=[AV.str 0,.str 1]) 2 rfl (by decide)) λv hv e=>?_
 rcases List.mem_cons.mp hv with h|h
 .exact⟨ai,h▸e⟩
 .exact⟨ag,List.mem_singleton.mp h▸e⟩
theorem zqb(D:sJ)(s)(e):(D.add s e).es.length+(D.add s e).fs.length=D.es.length+D.fs.length+1:=by
 cases s
 .show (D.es++[e]).length+_=_;rw[aq,aG];show _+_+D.fs.length=_;exact zb 0x2420a502905282 rfl
 .show _+(D.fs++[e]).length=_;rw[aq,aG];show D.es.length+_=_;exact zb 0x2420a5121a0282 rfl
theorem sU.sub(h:sU U a D)(s:Sub U U'):sU U' a D:=⟨s _ _ h.s,s _ _ h.d,s _ _ h.r,s _ _ h.b,s _ _ h.k,s _ _ h.t,s _ _ h.c,h.dr,h.nd⟩
theorem sU.other(h:sU U a D)(hp:p∉a.all):sU (U.set p o) a D:=by
 simp only[LA.all,bR,aZ,or_false,not_or] at hp;exact zcP hp λh1 h2 h3 h4 h5 h6 h7=>⟨zp h.s (bO h1),zp h.d (bO h2),zp h.r (bO h3),zp h.b (bO h4),zp h.k (bO h5),zp h.t (bO h6),zp h.c (bO h7),h.dr,h.nd⟩
structure OA where
 od:aH
 ob:aH
 ok:aH
 br:aH
structure OV where
 days:Int
 scale:Int
 base:Int
 step:Int
 seen:List Mt
 tk:List Mt
noncomputable def OA.all(o:OA):List aH:=[o.od,o.ob,o.ok,o.br]
noncomputable def OA.row(o:OA)(s:Bool):aH:=if s then o.ok else o.ob
noncomputable def wo(o:OA)(v:OV):List (Nat×AV):=[(0,.ref o.ob),(1,.ref o.ok),(18,.ref o.br),(20,.int v.days),(21,.int v.scale),(22,.int v.base),(23,.lst (v.seen.map zx)),(5,.lst (v.tk.map zx)),(24,.int v.step)]
structure ub(v:OV):Prop where
 days:v.days=8\/v.days=40
 scale:1<=v.scale/\v.scale<=100000000
 base:0<=v.base/\v.base<=9882
 step:1<=v.step/\v.step<=3
structure tf(U:su)(o:OA)(v:OV)(D:sJ):Prop where
 d:U o.od=ae (.idict (wo o v))
 b:U o.ob=ae (.list (D.es.map zD))
 k:U o.ok=ae (.list (D.fs.map zD))
 r:U o.br=ae (.list (D.clos.map zx))
 nd:o.ob≠o.ok
 nr:o.ob≠o.br/\o.ok≠o.br
structure St(U:su)(a:LA)(o:OA)(v:OV)(D:sJ)(k:Nat):Prop where
 L:sU U a D
 O:tf U o v D
 dis:∀x∈o.all,x∉a.all
 I:Inv D
 few:D.es.length+D.fs.length<=k
 clk:D.clos.length<=k
def Fr(U:su)(a:LA)(o:OA)(U':su)(pt:aH):Prop:=∀x z,U x=ae z->x∉a.all->x∉o.all->U' x=ae z/\x≠pt
variable{o:OA}{v:OV}{D:sJ}
theorem tf.row(h:tf U o v D)(s):U (o.row s)=ae (.list ((D.row s).map zD)):=by
 cases s with
 | false=>exact h.b
 | true=>exact h.k
theorem zfw(o:OA):o.od∈o.all:=aj
theorem zsr(o:OA):o.ob∈o.all:=al _ aj
theorem zss(o:OA):o.ok∈o.all:=al _ (al _ aj)
theorem znD(o:OA):o.br∈o.all:=aJ [o.od,o.ob,o.ok] aj
theorem tf.keep(h:tf U o v D)(s:∀x∈o.all,∀z,U x=ae z->U' x=ae z):tf U' o v D:=
 ⟨s _ (zfw o) _ h.d,s _ (zsr o) _ h.b,s _ (zss o) _ h.k,s _ (znD o) _ h.r,h.nd,h.nr⟩
theorem tf.sub(h:tf U o v D)(s:Sub U U'):tf U' o v D:=h.keep λx _ z e=>s x z e
theorem tf.nod(h:tf U o v D)(e:U q=ae (.list xs)):o.od≠q:=λr=>by have:=h.d;rw[r,e] at this;cases this
theorem tf.add(h:tf U o v D)(s)(e):tf (U.set (o.row s) (.list (((D.row s)++[e]).map zD))) o v (D.add s e):=by
 have hd:o.od≠o.row s:=h.nod (h.row s);cases s with
 | false=>exact⟨zp h.d hd,su.wA ..,zp h.k (bO h.nd),zp h.r (bO h.nr.1),h.nd,h.nr⟩
 | true=>exact⟨zp h.d hd,zp h.b h.nd,su.wA ..,zp h.r (bO h.nr.2),h.nd,h.nr⟩
theorem tf.put(h:tf U o v D)(v'):tf (U.set o.od (.idict (wo o v'))) o v' D:=
 ⟨su.wA ..,zp h.b (bO (h.nod h.b)),zp h.k (bO (h.nod h.k)),zp h.r (bO (h.nod h.r)),h.nd,h.nr⟩
theorem zkV(o:OA)(s):o.row s∈o.all:=by
 cases s
 .exact zsr o
 .exact zss o
theorem zkx(a:LA):a.dx∈a.all:=al _ aj
theorem zsu(a:LA):a.pc∈a.all:=aJ [a.self,a.dx,a.rd,a.pb,a.pk,a.pt] aj
theorem zkn(a:LA)(s):a.row s∈a.all:=by
 cases s
 .exact aJ [a.self,a.dx,a.rd] (aj (a:=a.pb) (l:=[a.pk,a.pt,a.pc]))
 .exact aJ [a.self,a.dx,a.rd,a.pb] (aj (a:=a.pk) (l:=[a.pt,a.pc]))
theorem zjv{a:LA}{pt x:aH}(h:x∈({ a with pt:=pt }:LA).all):x=pt\/x∈a.all:=
 (List.mem_append.mp (show x∈[a.self,a.dx,a.rd,a.pb,a.pk]++pt::[a.pc] from h)).elim (λh=>.inr (aW (a.pt::[a.pc]) h)) λh=>(List.mem_cons.mp h).elim .inl λh=>.inr (aJ [a.self,a.dx,a.rd,a.pb,a.pk] (al _ h))
theorem zc2(a:LA):a.pt∈a.all:=aJ [a.self,a.dx,a.rd,a.pb,a.pk] (aj (a:=a.pt) (l:=[a.pc]))
theorem qy(h:U x=ae z):U x≠af:=by rw[h];exact aA _
theorem tf.some(h:tf U o v D)(hx:x∈o.all):U x≠af:=
 (List.forall_mem_cons.mpr ⟨qy h.d,List.forall_mem_cons.mpr ⟨qy h.b,List.forall_mem_cons.mpr ⟨qy h.k,List.forall_mem_cons.mpr ⟨qy h.r,λ_ h=>nomatch h⟩⟩⟩⟩:∀x∈o.all,U x≠af) x hx
theorem sU.some(h:sU U a D)(hx:x∈a.all):U x≠af:=
 (List.forall_mem_cons.mpr ⟨qy h.s,List.forall_mem_cons.mpr ⟨qy h.d,List.forall_mem_cons.mpr ⟨qy h.r,List.forall_mem_cons.mpr ⟨qy h.b,List.forall_mem_cons.mpr ⟨qy h.k,List.forall_mem_cons.mpr ⟨qy h.t,List.forall_mem_cons.mpr ⟨qy h.c,λ_ h=>nomatch h⟩⟩⟩⟩⟩⟩⟩:∀x∈a.all,U x≠af) x hx
theorem znU{a:LA}(h:tf U o v D)(dis:∀x∈o.all,x∉a.all)(hp:pt=a.pt\/U pt=af):∀x∈o.all,x∉({ a with pt:=pt }:LA).all:=λx hx hx'=>
 (zjv hx').elim (λe=>hp.elim (λe'=>dis x hx (by rw[e,e'];exact zc2 a)) λhn=>h.some hx (by rw[e];exact hn)) (dis x hx)
theorem St.mono(h:St U a o v D k):St U a o v D (k+1):=⟨h.L,h.O,h.dis,h.I,bS h.few,bS h.clk⟩
theorem St.sub(h:St U a o v D k)(s:Sub U U'):St U' a o v D k:=⟨h.L.sub s,h.O.sub s,h.dis,h.I,h.few,h.clk⟩
theorem zdF(h:tf U o v D)(q:Q (.ref (o.row s)) U):uP o.od (.str s.toNat) Q U:=by
 refine zJ h.d ?_;cases s<;>exact q
theorem zsq(e:U x=ae z)(h:U pt=af):x≠pt:=λq=>by rw[q,h] at e;exact absurd (d6 e) (aA _)
theorem Fr.refl(a)(o):Fr U a o U a.pt:=λx z e h _=>⟨e,λq=>h (q▸zc2 a)⟩
theorem Fr.trans(h:Fr U a o σ1 pt)(h2:Fr σ1 { a with pt:=pt } o σ2 pt2):Fr U a o σ2 pt2:=λx z e k1 k2=>
 h2 x z (h x z e k1 k2).1 (λq=>(zjv q).elim (h x z e k1 k2).2 k1) k2
theorem Fr.dx(fr:∀x z,x≠a.dx->U x=ae z->σ1 x=ae z)(hpt:pt=a.pt\/U pt=af):Fr U a o σ1 pt:=λx z e k1 k2=>
 ⟨fr x z (λh=>k1 (h▸zkx a)) e,λq=>hpt.elim (λh=>k1 (by rw[q,h];exact zc2 a)) λh=>zsq e h q⟩
theorem Fr.own(hx:x∈o.all):Fr U a o (U.set x z) a.pt:=λy w e k1 k2=>⟨zp e λq=>k2 (q▸hx),λq=>k1 (q▸zc2 a)⟩
end
section
variable{P:Hm}{X:Cx}{n:Nat}{Q:zt}{Z:XP}{U:su}
theorem zev(G:Gd X (hK P))(hd:n<560)(h:sU U a D)(ho:t5 D)(q:Q (.lst ((srt sM D.tick).map zx)) U):sy X 211 ⟨n,hb⟩ [.ref a.self] Q Z U:=zcu G hd h ho λr hr=>ziD hr q
theorem zcM(G:Gd X (hK P))(hd:n<560)(h:sU U a D)(q:Q (.lst (D.clos.map zx)) U):sy X 218 ⟨n,hb⟩ [.ref a.self] Q Z U:=zc5 G hd h λr hr=>ziD hr q
theorem zkJ(G:Gd X (hK P))(hd:n<560)(h:sU U a D)(ho:t5 D)(q:Q (.lst ((D.left s).map λi:Nat=>.int i)) U):sy X 223 ⟨n,ai⟩ [.ref a.self,.str s.toNat] Q Z U:=zcU G hd h ho λr hr=>ziD hr q
theorem zjI(m):xO (zx m) (.tuple [kh m.1,kh m.2]):=λU=>.tup (.cons (.tup (zdH _)) (.cons (.tup (zdH _)) .nil))
theorem zhU(m:Mt):(nN [kh m.1,kh m.2]).depth<=100:=by
 show fF (bf (m.1.map .int)+1) (fF (bf (m.2.map .int)+1) 0)+1<=100;rw[zb8,zb8];decide
theorem zo4(m m':Mt):aU (.tuple [kh m.1,kh m.2]) (.tuple [kh m'.1,kh m'.2])=decide (m=m'):=by
 simp only[aU,bP,zcd,iG];obtain⟨a,b⟩:=m;obtain⟨c,d⟩:=m'
 by_cases h1:a=c<;>by_cases h2:b=d<;>simp[h1,h2]
theorem zvu{m:Mt}{ms:List Mt}(h:m∈ms){K:AV->List AV->Prop}(q:K .none ((ms.erase m).map zx)):yO (ms.map zx) (zx m) K:=by
 refine zm (List.exists_erase_eq h) λDH post h1 h2 h3=>?_;unfold yO;refine qu (DH.map zx) (zx m) (post.map zx) _ _ (by rw[h2,aB,aY]) (zjI m) (zjI m) (by rw[zo4,H3 rfl]) (zhU m) (λx hx=>?_) ?_
 .refine za (List.mem_map.mp hx) λm' Mw Ff=>?_;subst Ff;exact zz _ (zjI m') (by rw[zo4];exact H0 λe=>h1 (by rw[<-e];exact Mw)) (zhU m')
 .rw[<-aB,<-h3];exact q
theorem nd4:[a,b,c,d].Nodup↔(a≠b/\a≠c/\a≠d)/\(b≠c/\b≠d)/\c≠d:=by simp only[pD,bR,aZ,or_false,not_or,not_false_eq_true,rh,and_true]
theorem zgO(G:Gd X (hK P))(hd:n<560)(h:sU U a D)(hm:m∉D.tick)(z:Z 106 U):sy X 235 ⟨n,ai⟩ [.ref a.self,zx m] Q Z U:=by
 refine zdf G (aw hd (by decide)) λL=>zk h.s h.d (zqG h.t ?_);rw[H0 hm];exact z
theorem zgP(G:Gd X (hK P))(hd:n<560){a:LA}{D:sJ}(h:sU U a D)(ho:t5 D){m:Mt}(hm:m∈D.tick)
  (q:∀U',(∀x o,x≠a.pt->x≠a.pc->U x=ae o->U' x=ae o)->sU U' a (D.take m)->Q .none U'):sy X 235 ⟨n,ai⟩ [.ref a.self,zx m] Q Z U:=by
 refine zdf G (aw hd (by decide)) λL=>zk h.s h.d (zqG h.t ?_);rw[H3 hm];refine zk h.s h.d (zo h.t (zo h.t (zvu hm ?_)));have n4:=h.nd;have Jy:a.pt≠a.pc/\a.pb≠a.pt/\a.pk≠a.pt/\a.pb≠a.pc/\a.pk≠a.pc:=by
  have n4:=nd4.mp n4;exact ju n4.2.2 n4.1.2.1 n4.2.1.1 n4.1.2.2 n4.2.1.2
 have nt:∀{q:aH} {o:AO},U q=ae o->(∀xs,o≠.list xs)->q≠a.pt/\q≠a.pc:=λe ho=>⟨λq=>by rw[q,h.t] at e;cases e;exact ho _ rfl,λq=>by rw[q,h.c] at e;cases e;exact ho _ rfl⟩
 have s1:=nt h.s (λ_ q=>nomatch q);have s2:=nt h.d (λ_ q=>nomatch q);have s3:=nt h.r (λ_ q=>nomatch q);refine zk (zp h.s s1.1) (zp h.d s2.1) ?_;have kc:(U.set a.pt (.list ((D.tick.erase m).map zx))) a.pc=ae (.list (D.clos.map zx)):=zp h.c Jy.1.symm;refine zo kc (zo kc (zN (by rw[am];have:=ho.cl;exact zd 0x1e8481248280003e890006 rfl this) ?_));have e:D.clos.map zx++[zx m]=(D.clos++[m]).map zx:=by rw[aB];rfl
 rw[e];refine sD.same (q _ (λx o h1 h2 e=>zp (zp e h1) h2) ⟨zp (zp h.s s1.1) s1.2,zp (zp h.d s2.1) s2.2,zp (zp h.r s3.1) s3.2,zp (zp h.b Jy.2.1) Jy.2.2.2.1,zp (zp h.k Jy.2.2.1) Jy.2.2.2.2,zp (su.wA ..) Jy.1,su.wA ..,h.dr,h.nd⟩)
theorem ziZ(h:Inv D):D.tick.length<=D.es.length+D.fs.length:=by
 have CL:∀m∈D.tick,zr m≠[]:=λm hm=>zch (h.fits m hm).go;have nd:(D.tick.map qA).Nodup:=by
  rw[ip,fW];exact h.apart.imp_of_mem λ{a b} ha hb hd e=>hd _ (zaq (CL a ha)) (e▸zaq (CL b hb))
 have:=zbi nd (u:=(ti D.es D.fs).map (·.2)) λy hy=>by
  refine za (List.mem_map.mp hy) λm hm DB=>?_;subst DB;have r:=zhQ (h.fits m hm) (zaq (CL m hm));refine za (zcl r.1 r.2) λg h1 h2=>?_;rw[<-km D.es D.fs D.span];exact List.mem_flatten.mpr (zf g h1 h2)
 rw[am,am,zbq] at this;exact this
def BV(D D':sJ):Prop:=D'.es=D.es/\D'.fs=D.fs/\D'.span=D.span/\D'.clos=D.clos
structure B9(U:su)(a:LA)(D:sJ)(xs:List (List zn))(b:sJ)(U':su)(pt:aH):Prop where
 fr:∀x o,x≠a.dx->U x=ae o->U' x=ae o
 hpt:pt=a.pt\/U pt=af
 L:sU U' { a with pt:=pt } b
 I:Inv b
 sb:BV D b
 hx:∀g∈xs,g∈D.grps
theorem zqc(G:Gd (X.push L) (hK P))(hd:n<530){J:su->Prop}(hJ:∀U,J U){K:Loc->su->Prop}(h:∃pt,B9 U a D (g::xs) b U' pt)(hK:∀σ2,(∃pt,B9 U a D xs (b.pick g) σ2 pt)->K [ae (.ref a.self),ae (uB g)] σ2):BQ (X.push L) ⟨n+1,ai⟩ [ae (.ref a.self),ae (uB g)] (G0 J K S) G1 U':=by
 obtain⟨pt,H⟩:=h;have MJ:g∈b.grps:=by unfold sJ.grps;rw[H.sb.1,H.sb.2.1,H.sb.2.2.1];exact H.hx g aj
 have h8:=H.I.few g MJ;have KD:=H.I.ok.few;refine zk H.L.s H.L.d (zkW G (zFx hd) H.L H.I.ok (zf8 MJ h8 KD) λσ2 pt2 Jg D0 Rn=>?_);have QC:=zhZ H.I.ok H.I.lo H.I.hi H.I.few H.I.apart H.I.fits H.I.free MJ (by have:=ziZ H.I;exact zc 0x7c1200041a0006000509080000a1208086 rfl KD this);refine⟨hJ _,hK σ2 ⟨pt2,λx o hx e=>Jg x o hx (H.fr x o hx e),.inr ?_,Rn,QC,H.sb,λg hg=>H.hx g (al _ hg)⟩⟩;cases e:U pt2 with
 | none=>rfl
 | some o=>
  by_cases hx:pt2=a.dx
  .rw[hx] at D0;have:=H.L.d;rw[D0] at this;exact nos this
  .rw[H.fr pt2 o hx e] at D0;exact nso D0
theorem znq(G:Gd X (hK P))(hd:n<530)(h:sU U a D)(I:Inv D)
  (q:∀U' Fj D',(∀x o,x≠a.dx->U x=ae o->U' x=ae o)->(Fj=a.pt\/U Fj=af)->sU U' { a with pt:=Fj } D'->Inv D'->BV D D'->Q .none U'):sy X 242 ⟨n,ai⟩ [.ref a.self] Q Z U:=by
 exact zqO G (aw hd (by decide)) λL=>zk h.s h.d (zbD (G.push L) (zFy hd) h I.ok (qB (g:=uB) (λ_ (u:Option AV)=>[ae (.ref a.self),u]) (λxs b _ U'=>∃pt,B9 U a D xs b U' pt) sJ.pick (λg xs b u U' K S_ H hK=>zf _ rfl (zqc (G.push L) hd (λ_=>trivial) H λσ2 H2=>hK _ σ2 H2)) (b:=D) (λu U' H=>zQ H λpt H=>sD.same (q U' pt _ H.fr H.hpt H.L H.I H.sb)) ⟨a.pt,λ_ _ _ e=>e,.inl rfl,h,I,⟨rfl,rfl,rfl,rfl⟩,λg hg=>hg⟩))
theorem kL(ms:List Mt):∀x∈ms.map zx,sN 2 x:=λx hx=>by refine za (List.mem_map.mp hx) λm _ e=>?_;rw[<-e];exact zaL m
theorem znY(hf:∀x∈xs,sN k x)(hk:k<100)(q:R ag U):tV (.lst xs) (.lst xs) R U:=zcc (.lst hf) (.lst hf) hk (λ_=>q) λh=>absurd rfl h
theorem zyR(q:R (decide (m=m')) U):tV (zx m) (zx m') R U:=
 zcc (zaL m) (zaL m') (by decide) (λh=>by rw[H3 (zez h)] at q;exact q) λh=>by rw[H0 λe=>h (congrArg zx e)] at q;exact q
theorem ziP(hp:U p=ae (.list xs))(hx:∀x∈xs,sN k x)(hk:k<100)(q:R ag U):tV (.lst xs) (.ref p) R U:=by
 refine za (zeL (U:=U) λx h=>(hx x h).rd) λds r1 l1=>?_;have e:=(sN.lst hx).eqv (sN.lst hx) (.list ds) (.list ds) (.lst r1) (.lst r1);unfold tV;exact .inl (zq (.list ds) (.list ds) (.lst r1) (.list hp r1) (Nat.succ_le_of_lt (cU l1 hk)) (by rw[e.mpr rfl];exact q))
theorem zsj{m:Mt}{ms:List Mt}{R:Bool->su->Prop}(q:R (decide (m∈ms)) U):uS (zx m) (.lst (ms.map zx)) R U:=
 zck (k:=2) (.inl rfl) (zaL m) (kL ms) (by decide) (λh=>by refine za (List.mem_map.mp h) λm' hm e=>?_;rw[H3 (zez e▸hm)] at q;exact q) λh=>by rw[H0 λe=>h (b8 e)] at q;exact q
end
section
variable{P:Hm}{X:Cx}{n:Nat}{Q:zt}{Z:XP}{U:su}{o:OA}{v:OV}{D:sJ}
theorem zzs(h:x≠0/\-7<=x/\x<=7)(h1:1<=s)(h2:s<=100000000):x*s≠0/\-700000000<=x*s/\x*s<=700000000:=by
 have h0:(0:Int)<=s:=bW (by decide) h1;refine zu (Int.mul_ne_zero h.1 λe=>by rw[e] at h1;exact absurd h1 (by decide)) (bW ?_ (gx h.2.1 h0)) (bW (gx h.2.2 h0) ?_)
 .rw[Int.neg_mul];exact Int.neg_le_neg (gH (c:=7) h2 (by decide))
 .exact gH (c:=7) h2 (by decide)
theorem at8(c:Int):∃x:Int,jM [AV.int 1,.int 2,.int 3,.int 4,.int 5,.int 7,.int (-2),.int (-3)] (c.fmod 8)=ae (.int x)/\∀s:Int,1<=s->s<=100000000->x*s≠0/\-700000000<=x*s/\x*s<=700000000:=by
 refine za (zcL (c:=c) (xs:=([1,2,3,4,5,7,-2,-3]:List Int).map AV.int) 8 rfl (by decide)) λv hv e=>za (List.mem_map.mp hv) λx hx ex=>?_;subst ex;exact zf x e λs h1 h2=>zzs ((by decide:∀x∈([1,2,3,4,5,7,-2,-3]:List Int),x≠0/\-7<=x/\x<=7) x hx) h1 h2
theorem kU{i j:Int}(h1 : -1000000000<=j)(h2:j<=1000000000):(small j.natAbs||small i.natAbs)=ag:=by
 have h:j.natAbs<=1000000000:=by lia
 unfold small;rw[show iB j.natAbs 1152921504606846976=ag from g7 (cU h (by decide))];rfl
theorem zf7(h1:0<=d/\d<=9999)(h2:c≠0)(h3 : -1000000000<=c)(h4:c<=1000000000):k7 d c=ag:=by
 unfold k7;rw[H3 h1.1,H3 h1.2,H3 (y11 h3:0-1000000000<=c),H3 h4,H0 h2];rfl
theorem zjz(h1 : -700000000<=x)(h2:x<=700000000):(x.natAbs:Int)<=700000000:=by lia
theorem zgh(G:Gd X (hK P))(hd:n<470)(O:tf U o v D)(hv:ub v){c:Int}(q:∀(s:Bool) (e:td),k7 e.1 e.2=ag->Q (.tup [.str s.toNat,.int e.1,.int e.2]) U):sy X 263 ⟨n,ai⟩ [.int c,.ref o.od] Q Z U:=by
 refine zhA G (zuw hd) λL=>zJ O.d (ze rfl ?_);refine zJ O.d (ze rfl ?_);have My:=hv.days;have JU:0<v.days:=by rcases My with h|h<;>rw[h]<;>decide
 refine jr (by unfold wl;rw[H0 (y14 JU)];rfl) (zJ O.d (ze rfl ?_));have b1:=bd (c.fdiv 2) JU;have b2:=bu (c.fdiv 2) JU;have b3:=hv.step;have b4:=hv.base;have b5:=hv.scale;refine jr (kU (zFP b3) (zFQ b3)) ?_;generalize (c.fdiv 2).fmod v.days=x at b1 b2 ⊢;have Ix:0<=v.base+x*v.step/\v.base+x*v.step<=9999:=by
  have GX:v.step=1\/v.step=2\/v.step=3:=zFn b3
  rcases GX with h|h|h<;>rw[h,Int.mul_comm]<;>(first|exact zaJ 0x1387c820000360502100001b0288090490d0260a0260269a9002040486000289087010ca6 rfl My b4 b1 b2|exact zaJ 0x1387c820000560502100002b0288090490d0260a0260269a9002040486000289087010ca6 rfl My b4 b1 b2|exact zaJ 0x1387c820000760502100003b0288090490d0260a0260269a9002040486000289087010ca6 rfl My b4 b1 b2)
 refine za (at8 (c.fdiv 80)) λy ey hy=>ze ey (zJ O.d (ze rfl ?_));refine jr (kU (zFN b5) (zFO b5)) (jg (hy v.scale b5.1 b5.2) λy1 y2 y3=>?_);obtain⟨s,es⟩:=zkp c;have RG:∃z:Int,jM [AV.int 1,.int (-1)] (if decide (y*v.scale<0)=ag then 1 else 0)=ae (.int z)/\(z=1\/z = -1):=by
  cases decide (y*v.scale<0)
  .exact zf 1 rfl (.inl rfl)
  .exact zf (-1) rfl (.inr rfl)
 refine za RG λz ez hz=>zaS (λh1=>?_) λh1=>?_
 .refine ze ez (jr (kU (zFR hz) (zFS hz)) ?_);have hc:k7 (v.base+x*v.step) ((10 ^ du 9-((y*v.scale).natAbs:Int))*z)=ag:=by
   have e9:(10:Int) ^ du 9=1000000000:=by decide
   rw[e9];have ha:((y*v.scale).natAbs:Int)<=700000000:=zjz y2 y3;generalize (y*v.scale).natAbs=a at ha ⊢
   rcases hz with rfl|rfl
   .rw[Int.mul_one];exact zf7 Ix (zFT ha) (zFW ha) zFX
   .rw[Int.mul_neg,Int.mul_one];exact zf7 Ix (zFU ha) zFY (zFV ha)
  exact ze es (sD.same (q s (_,_) hc))
 .exact ze es (sD.same (q s (_,_) (zf7 Ix y1 (bW (by decide) y2) (bW y3 (by decide)))))
noncomputable def xD(T:List Int)(k:Nat):Option Int:=match k with|0=>af|j+1=>ae (T.getD j 0)
noncomputable def xj(o:OA)(d span:Int)(T:List Int)(c w:Nat)(u:Option AV):Loc:=[ae (.ref o.od),ae (.int d),ae (.int span),ae (.lst (T.map .int)),ae (.int c),ae (.int w),u]
structure yv(span:Int)(T:List Int)(xs:List Nat)(k c w r:Nat):Prop where
 hxs:xs=iD k (T.length-k)
 hk:k<=T.length
 out:uZ span (xD T k) c w (T.drop k)=r
def BP:AS:=(Gc (Gh 5 (Gj xc ai [Ga 5,Ga 4])) Ge)
section
variable{d span:Int}{T:List Int}{xs:List Nat}{I:su->Prop}{K:Loc->su->Prop}{S:je}{k c w r:Nat}
theorem zqk(hI:I U)(hK:K (xj o d span T c (fF w c) u) U):BP ⟨dd,ai⟩ (xj o d span T c w u) (G0 I K S) G1 U:=by
 refine⟨hI,?_⟩;have e:(fF (w:Int) (c:Int))=((fF w c:Nat):Int):=zFZ;show K (xj o d span T c w u |>.set 5 (ae (.int (fF (w:Int) (c:Int))))) U;rw[e];exact hK
theorem zuP(H:yv span T (i::xs) k c w r):i=k/\xs=iD (k+1) (T.length-(k+1))/\k<T.length:=by
 have hxs:=H.hxs;cases hm:T.length-k with
 | zero=>rw[hm] at hxs;cases hxs
 | succ j=>
  rw[hm,oW] at hxs;cases hxs;exact zu rfl (by rw[show T.length-(k+1)=j by exact zr0 hm]) (by exact znj hm)
theorem zqj(hI:I U)(h:∃k,yv span T (i::xs) k c w r)(hK:∀z:Nat×Nat×Option AV,(∃k,yv span T xs k z.1 z.2.1 r)->K (xj o d span T z.1 z.2.1 z.2.2) U):∃l',j2 (.one 6) (.int (i:Nat)) (xj o d span T c w u)=ae l'/\Bt X ⟨dd,ai⟩ l' (G0 I K S) G1 U:=by
 obtain⟨k,H⟩:=h;obtain⟨rfl,hxs',Cu⟩:=zuP H;have ht:=jD (d:=(0:Int)) Cu;have IP:T.drop i=T.getD i 0::T.drop (i+1):=by rw[cn Cu];exact congrArg (·::_) (Hz ((aC Cu).symm.trans ht))
 have out:=H.out;rw[IP] at out;have out:uZ span (ae (T.getD i 0)) (vu span (xD T i) c (T.getD i 0)) (fF w (vu span (xD T i) c (T.getD i 0))) (T.drop (i+1))=r:=out;refine zf _ rfl ?_;have go:∀c',vu span (xD T i) c (T.getD i 0)=c'->BP ⟨dd,ai⟩ (xj o d span T c' w (ae (.int (i:Nat)))) (G0 I K S) G1 U:=λc' e=>by
  rw[e] at out;exact zqk hI (hK (c',_,_) ⟨i+1,hxs',Cu,out⟩)
 cases i with
 | zero=>exact go (c+1) rfl
 | succ i=>
  have Lh:=jD (d:=(0:Int)) (Nat.lt_of_succ_lt Cu);refine qp (H3 (Int.ofNat_lt.mpr (dG i))) (ze (zae ht) (ze (show jM (T.map AV.int) (((i+1:Nat):Int)-1)=ae (.int (T.getD i 0)) by rw[show (((i+1:Nat):Int)-1)=(i:Int) by exact zt7];exact zae Lh) (zaS (λh=>?_) λh=>?_)))
  .have e:yQ span (xD T (i+1)) (T.getD (i+1) 0)=ag:=h;exact go 1 (by unfold vu;rw[e])
  .have e:yQ span (xD T (i+1)) (T.getD (i+1) 0)=ai:=h;exact go (c+1) (by unfold vu;rw[e])
end
theorem zku(h:sO es):∀p∈es.map (·.1),(0:Int)<=p:=λp hp=>by refine za (List.mem_map.mp hp) λe he e1=>?_;rw[<-e1];exact(h.day e he).1
theorem znO(G:Gd X (hK P))(hd:n<580)(O:tf U o v D)(h1:t5 (D.add s e))(he:sO D.es)(hf:sO D.fs)(h0:0<=e.1)(q:Q (.int (uZ sp af 0 0 ((ti (D.add s e).es (D.add s e).fs).map (·.1)):Nat)) U):sy X 268 ⟨n,ai⟩ [.ref o.od,.int e.1,.int sp] Q Z U:=by
 refine zqP G (aw hd (by decide)) λL=>?_;have l1:=he.len;have l2:=hf.len;refine zJ O.d (ze rfl ?_);refine zJ O.d (ze rfl ?_);refine ze (zB O.b) (ze (zB O.k) (zN (by rw[am,am];exact zrX l1 l2) ?_));rw[<-aB];refine z8 (λe:td=>.int e.1) (λ_=>rfl) (λ_ _=>rfl) (λp _ R q=>q) trivial (by rw[aq];exact zrX l1 l2) (zN (by rw[am,aq];exact ap (eU (cC l1 l2) 1) (by decide)) ?_);have e2:(D.es++D.fs).map (λe:td=>AV.int e.1)++[AV.int e.1]=((D.es++D.fs).map (·.1)++[e.1]).map .int:=by rw[aB (f:=AV.int),aL];rfl
 rw[e2];refine zpH (λp hp=>?_) ?_
 .rcases List.mem_append.mp hp with hp|hp
  .rw[aB] at hp;exact(List.mem_append.mp hp).elim (zku he p) (zku hf p)
  .rw[List.mem_singleton.mp hp];exact h0
 rw[znP h1];have hT:((ti (D.add s e).es (D.add s e).fs).map (·.1)).length<=100000:=by
  rw[am,zbq];have:=h1.few;exact ap (cC this.1 this.2) (by decide)
 generalize (ti (D.add s e).es (D.add s e).fs).map (·.1)=T at hT q ⊢
 conv=>whnf
 rw[am];refine zdm (ap hT (by decide)) (qB (g:=λi:Nat=>AV.int i) (λ_ (z:Nat×Nat×Option AV)=>xj o e.1 sp T z.1 z.2.1 z.2.2) (λxs _ z U'=>U=U'/\∃k,yv sp T xs k z.1 z.2.1 (uZ sp af 0 0 T)) (λ(b:Unit) _=>b) (λi xs b z U' K S_ h hK=>?_) (b:=()) (c:=(_,_,_)) (λz U' h=>?_) ⟨rfl,0,mI,aE _,rfl⟩)
 .obtain⟨rfl,h⟩:=h;exact zqj trivial h λz h=>hK z _ ⟨rfl,h⟩
 .obtain⟨rfl,k,H⟩:=h;have CO:k=T.length:=by
   have hxs:=H.hxs;cases hm:T.length-k with
   | zero=>exact zb 0x1009000d44608006 rfl H.hk hm
   | succ j=>rw[hm] at hxs;cases hxs
  have out:=H.out;rw[CO,iU] at out;have out:z.2.1=uZ sp af 0 0 T:=out;rw[<-out] at q;exact sD.same q
end
section
variable{P:Hm}{X:Cx}{n:Nat}{Q:zt}{Z:XP}{U:su}{o:OA}{v:OV}{D:sJ}
theorem zpu(h:t5 D)(s):sO (D.row s):=by cases s<;>first|exact h.es|exact h.fs
theorem St.put(S:St U a o v D k)(I1:Inv ((D.add s e).pick g))(fr:∀x z,x≠a.dx->x≠a.row s->U x=ae z->σ1 x=ae z)(hp:U pt=af)(hL:sU σ1 { a with pt:=pt } ((D.add s e).pick g)) :
  tf σ1 o v D/\St (σ1.set (o.row s) (.list ((D.row s).map zD++[zD e]))) { a with pt:=pt } o v ((D.add s e).pick g) (k+1)/\Fr U a o (σ1.set (o.row s) (.list ((D.row s).map zD++[zD e]))) pt:=by
 have ER:=S.O.keep (U':=σ1) λx hx z e=>fr x z (λh=>S.dis x hx (h▸zkx a)) (λh=>S.dis x hx (h▸zkn a s)) e;have K2:=znU S.O S.dis (pt:=pt) (.inr hp);have J5:=ER.add s e;rw[aB] at J5;refine⟨ER,⟨hL.other (K2 _ (zkV o s)),⟨J5.d,J5.b,J5.k,J5.r,J5.nd,J5.nr⟩,K2,I1,zFM (zqb D s e) S.few,?_⟩,λx z ez h1 h2=>⟨zp (fr x z (λh=>h1 (h▸zkx a)) (λh=>h1 (h▸zkn a s)) ez) (λh=>h2 (h▸zkV o s)),zsq ez hp⟩⟩;show (D.add s e).clos.length<=k+1;rw[zdQ];exact bS S.clk
theorem zjh(G:Gd X (hK P))(hd:n<470)(S:St U a o v D k)(hk:k<=50){s:Bool}{e:td}(he:k7 e.1 e.2=ag)
  (q:∀U' pt D',St U' { a with pt:=pt } o v D' (k+1)->D'.span=D.span->Fr U a o U' pt->Q (.bool ag) U'):sy X 275 ⟨n,ai⟩ [.ref a.self,.ref o.od,.tup [.str s.toNat,.int e.1,.int e.2],.int D.span] Q Z U:=by
 have I:=S.I;have Dt:(D.row s).length<80:=by have:=S.few;cases s<;>(first|(show D.es.length<80;exact zc 0x284920a0022050060003290406 rfl hk this)|(show D.fs.length<80;exact zc 0x284920a0020150060003290406 rfl hk this))
 have D7:=zgk I.ok he Dt;have H9:=zam D s e;refine zlP G (zuw hd) λL=>?_;have Dd:n+1<471:=bH hd;have Sl:0<=e.1:=((zpu D7 s).day e (by rw[zb4];exact aJ _ aj)).1;refine zm (zbO (D.add s e) (m:=(s,((D.row s).length:Int))) (k:=(D.row s).length) rfl (by show _<((D.add s e).row s).length;rw[zb4,aq,aG];exact zp0)) λg gs hg GF M0=>znO (s:=s) (e:=e) (G.push L) (aw Dd (by decide)) S.O D7 I.ok.es I.ok.fs Sl ?_;have Nm:8<uZ D.span af 0 0 ((ti (D.add s e).es (D.add s e).fs).map (·.1))↔8<g.length:=by
  rw[zls];have eg:grps (D.add s e).es (D.add s e).fs D.span=(D.add s e).grps:=by rw[<-H9];rfl
  rw[eg];refine⟨λh=>lk λh8=>za h λx hx h9=>?_,λh=>(zf g GF h)⟩;exact absurd (zkm I D7 GF M0 h8 x hx) (Nat.not_le.mpr h9)
 generalize uZ D.span af 0 0 ((ti (D.add s e).es (D.add s e).fs).map (·.1))=cr at Nm ⊢;refine zk S.L.s S.L.d (zpm (G.push L) (aw Dd (by decide)) S.L I.ok he Dt hg (λh8 σ1 pt fr hp hL=>?_) λh9=>?_)
 .obtain⟨ER,S2,Jg⟩:=S.put (zk0 I D7 GF M0 h8 (by have:=ziZ I;have:=S.few;exact zg 0x1f0480008c5401862a00060003290406 rfl hk (by assumption) this)) fr hp hL;exact qo (H0 λh=>absurd (Nm.mp (Int.ofNat_lt.mp h)) (Nat.not_lt.mpr h8)) (zdF ER (ze (zB (ER.row s)) (qo (by rw[am,H3 rfl];rfl) (zdF ER (zo (ER.row s) (zo (ER.row s) (zN (by rw[am];exact zt4 Dt) (sD.same (q _ pt _ S2 H9 Jg)))))))))
 .exact qp (H3 (Int.ofNat_lt.mpr (Nm.mpr h9))) (sD.same (q U a.pt D S.mono rfl (Fr.refl a o)))
def zty(X:Cx):AS:=(Gc (Gk (kr [Gi (Gv X 245 (ae 17) 211 (Ga 0) []) [(.Eq,(Ga 2))],Gi (Gv X 245 (ae 18) 218 (Ga 0) []) [(.Eq,(Ga 3))]])) Ge)
theorem zkR(G:Gd (X.push L) (hK P))(hd:n<540)(hL:sU U a D)(ho:t5 D)(DA:U br=ae (.list (D.clos.map zx)))(hT:T=srt sM D.tick)(q:∀l,S (.ret (.bool ag)) l U) :
  zty (X.push L) ⟨n,hb⟩ [ae (.ref a.self),x1,ae (.lst (T.map zx)),ae (.ref br),x4,x5] S SZ U:=by
 subst hT;exact zk hL.s hL.d (zev G (aw hd (by decide)) hL ho (znY (kL _) (by decide) (zk hL.s hL.d (zcM G (aw hd (by decide)) hL (ziP DA (kL _) (by decide) (q _))))))
theorem zbh(G:Gd X (hK P))(hd:n<500)(hL:sU U a D)(ho:t5 D)(hm:m∉D.tick)(DA:U br=ae (.list (D.clos.map zx)))(hT:T=srt sM D.tick)(q:Q (.bool ag) U):sy X 282 ⟨n,ai⟩ [.ref a.self,zx m,.lst (T.map zx),.ref br,.int w] Q Z U:=by
 have Dd:n+1<501:=bH hd;refine zje G (aw hd (by decide)) λL=>zk hL.s hL.d (zgO (G.push L) (aw Dd (by decide)) hL hm (zaS (λ_=>?_) λ_=>?_))
 .exact zk hL.s hL.d (zcM (G.push L) (aw Dd (by decide)) hL (ziP DA (kL _) (by decide) (zkR (G.push L) (aw Dd (by decide)) hL ho DA hT λl=>sD.same q)))
 .exact zkR (G.push L) (aw Dd (by decide)) hL ho DA hT λl=>sD.same q
end
section
variable{P:Hm}{X:Cx}{n:Nat}{Q:zt}{Z:XP}{U:su}{o:OA}{v:OV}{D:sJ}
def zyD(U:su)(a:LA)(o:OA)(v:OV)(D:sJ)(k:Nat)(Q:zt):Prop:=∀U' pt D' sn,St U' { a with pt:=pt } o { v with seen:=sn } D' (k+1)->D'.span=D.span->Fr U a o U' pt->sn.length<=v.seen.length+100->Q (.bool ag) U'
theorem mem_srt:m∈srt sM ms↔m∈ms:=(zR sM ms).mem_iff
noncomputable def xd(a:LA)(o:OA)(c:Int)(D:sJ)(u4 u5 u6 u7:Option AV):Loc:=[ae (.ref a.self),ae (.ref o.od),ae (.int c),ae (.int D.span),u4,u5,u6,u7]
theorem zgs{x:Nat}(h:0<x):wl (x:Int)=ag:=by unfold wl;rw[H0 (zFv h)];rfl
theorem zsI{xs:List AV}(hx:0<xs.length)(a b:Int):∃v,v∈xs/\jM xs (a.fmod 2*b.fmod xs.length)=ae v:=by
 have h1:=bd a (show (0:Int)<2 by decide);have h2:=bu a (show (0:Int)<2 by decide);generalize a.fmod 2=i at h1 h2;have h:i=0\/i=1:=zyz h1 h2
 rcases h with rfl|rfl
 .rw[sk];cases xs with|nil=>exact absurd hx (cW _)|cons x xs=>exact zf x aj rfl
 .rw[Int.one_mul];exact zcL _ rfl (zFu hx)
section
variable{L:fB}{a:LA}{k:Nat}{c:Int}{R:AS}{S_:je}{SZ:uN}{u4 u5 u6 u7:Option AV}
theorem zsW(S:St U a o v D k)(hk:k<=50)(hT:v.tk=srt sM D.tick)(hs:v.seen.length<=10000)
  (q:∀σ1 sn,St σ1 a o { v with seen:=sn } D k->Fr U a o σ1 a.pt->sn.length<=v.seen.length+100->R ⟨n,ai⟩ (xd a o c D (ae (.lst (v.tk.map zx))) u5 u6 u7) S_ SZ σ1) :
  Gc (Gh 4 (Gg (Ga 1) (Gb (.str 5)))) (Gc (Gz (Gf ai .Add (Gg (Ga 1) (Gb (.str 23))) (Gu ai (Gp (Ga 4)) (.one 9) 2 (ae (Gi (Ga 9) [(.NotIn,(Gg (Ga 1) (Gb (.str 23))))])) (Ga 9))) (Ga 1) (Gb (.str 23))) R) ⟨n,ai⟩ (xd a o c D u4 u5 u6 u7) S_ SZ U:=by
 have I:=S.I;refine zJ S.O.d (ze rfl ?_);refine zJ S.O.d (ze rfl ?_);have El:v.tk.length<=50:=by rw[hT,(zR sM D.tick).length_eq];exact ap (ziZ I) (ap S.few hk)
 refine jm (λx=>!decide (x∈v.seen)) zx (λ_=>rfl) (λ_ _=>rfl) (λx hx R q=>zJ S.O.d (ze rfl (zsj q))) (λx hx _ R q=>q) trivial (ap El (by decide)) ?_;have Fi:(v.tk.filter λx=>!decide (x∈v.seen)).length<=50:=ap (bL ..) El;refine zN (by rw[am,am];exact ap (cC hs Fi) (by decide)) ?_;rw[<-aB];refine kg S.O.d (show 9<100 by decide) ?_;exact q _ _ ⟨S.L.other (S.dis _ (zfw o)),S.O.put { v with seen:=v.seen++v.tk.filter λx=>!decide (x∈v.seen) },S.dis,I,S.few,S.clk⟩ (Fr.own (zfw o)) (by rw[aq];exact cu (ap Fi (by decide)) _)
def By(X:Cx):AS:=(Gc (Gh 6 (Gf ai .Add (Gr ai [Gn [Gn [Gf ai .Mod (Gf ai .FloorDiv (Ga 2) (Gb (.int 64))) (Gb (.int 4))],Gn [Gf ai .Mod (Gf ai .FloorDiv (Ga 2) (Gb (.int 256))) (Gb (.int 4))]]]) (Gg (Ga 1) (Gb (.str 23))))) (Gc (Gh 6 (Gg (Ga 6) (Gf ai .Mult (Gf ai .Mod (Gf ai .FloorDiv (Ga 2) (Gb (.int 1024))) (Gb (.int 2))) (Gf ai .Mod (Gf ai .FloorDiv (Ga 2) (Gb (.int 2048))) (Gj jI ai [Ga 6]))))) (Gc (Gq (kr [Gi (Ga 6) [(.NotIn,(Ga 4))],Gx (Gm X 282 [Ga 0,Ga 6,Ga 4,Gg (Ga 1) (Gb (.str 18)),Gf ai .FloorDiv (Ga 2) (Gb (.int 11))])]) (Gc (Gk (Gb (.bool ai))) Ge) Ge) Ge)))
theorem zsZ(G:Gd (X.push L) (hK P))(hd:n<470)(S:St U a o v D k)(hT:v.tk=srt sM D.tick)(hs:v.seen.length<=20000)(q:∀u6,S_ .next (xd a o c D (ae (.lst (v.tk.map zx))) u5 u6 u7) U) :
  By (X.push L) ⟨n,ai⟩ (xd a o c D (ae (.lst (v.tk.map zx))) u5 u6 u7) S_ SZ U:=by
 refine zJ S.O.d (ze rfl ?_);refine zN (by rw[am];exact ap (cu hs 1) (by decide)) ?_;have e2:[AV.tup [.tup [.int ((c.fdiv 64).fmod 4)],.tup [.int ((c.fdiv 256).fmod 4)]]]++v.seen.map zx=(([(c.fdiv 64).fmod 4],[(c.fdiv 256).fmod 4])::v.seen).map zx:=rfl;rw[e2];have OC:(([(c.fdiv 64).fmod 4],[(c.fdiv 256).fmod 4])::v.seen).length<=20001:=b6 hs;have Ey:0<(([(c.fdiv 64).fmod 4],[(c.fdiv 256).fmod 4])::v.seen).length:=dG _;generalize (([(c.fdiv 64).fmod 4],[(c.fdiv 256).fmod 4])::v.seen)=M at Ey OC;have NH:(M.map zx).length=M.length:=am _;rw[<-NH] at Ey OC;refine jr (b:=wl ((M.map zx).length:Int)) (zgs Ey) ?_;have hp:(0:Int)<((M.map zx).length:Int):=Int.ofNat_lt.mpr Ey;refine jr (kU (bW (by decide) (bd (c.fdiv 2048) hp)) (zwD OC (bu (c.fdiv 2048) hp))) ?_;obtain⟨w,hw,ew⟩:=zsI Ey (c.fdiv 1024) (c.fdiv 2048);obtain⟨m,hm,rfl⟩:=List.mem_map.mp hw;refine ze ew (zsj ?_);cases hmt:decide (m∈v.tk) with
 | true=>exact q _
 | false=>
  refine zJ S.O.d (ze rfl ?_);exact zbh G (aw hd (by decide)) S.L S.I.ok (λh=>absurd (hT▸mem_srt.mpr h) (of_decide_eq_false hmt)) S.O.r hT (q _)
def zoS(X:Cx):AS:=(Gc (Gh 5 (Gg (Ga 4) (Gf ai .Mod (Gf ai .FloorDiv (Ga 2) (Gb (.int 8))) (Gj jI ai [Ga 4])))) (Gc (Gh 7 (Gu ai (Gp (Ga 4)) (.one 9) 2 (ae (Gi (Ga 9) [(.NotEq,(Ga 5))])) (Ga 9))) (Gc (Gs (Gw zX (Gg (Ga 1) (Gb (.str 18))) [Ga 5])) (Gc (Gk (kr [Gi (Gv X 245 af 235 (Ga 0) [Ga 5]) [(.Is,(Gb .none))],Gm X 282 [Ga 0,Ga 5,Ga 7,Gg (Ga 1) (Gb (.str 18)),Gf ai .FloorDiv (Ga 2) (Gb (.int 13))]])) Ge))))
theorem zsY(G:Gd (X.push L) (hK P))(hd:n<470)(S:St U a o v D k)(hk:k<=50){m0:Mt}{t0:List Mt}(hS:srt sM D.tick=m0::t0)
  (q:∀U' D' l,St U' a o v D' (k+1)->D'.span=D.span->Fr U a o U' a.pt->S_ (.ret (.bool ag)) l U') :
  zoS (X.push L) ⟨n,ai⟩ (xd a o c D (ae (.lst ((m0::t0).map zx))) u5 u6 u7) S_ SZ U:=by
 have I:=S.I;have Mq:∀x∈D.tick,tN x:=λx hx=>(I.fits x hx).go.1;have Ct:((m0::t0).map zx).length=t0.length+1:=by rw[am,au]
 refine jr (b:=wl (((m0::t0).map zx).length:Int)) (zgs (by rw[Ct];exact dG _)) (za (zcL (c:=c.fdiv 8) (xs:=(m0::t0).map zx) _ rfl (by rw[Ct];exact zd 0x482994a281 rfl)) λw hw ew=>za (List.mem_map.mp hw) λm hm CP=>?_);subst CP;have hm:m∈D.tick:=mem_srt.mp (hS▸hm);refine ze ew (jm (xs:=m0::t0) (λx=>!decide (x=m)) zx (λ_=>rfl) (λ_ _=>rfl) (λx hx R q=>zyR q) (λx hx _ R q=>q) trivial (by rw[<-hS,(zR sM D.tick).length_eq];exact zgS I.ok.tl) (zJ S.O.d (ze rfl ?_)));refine zo S.O.r (zo S.O.r ?_);have HM:=S.clk;refine zN (by rw[am];exact zb 0x1e8481248280080060003290406 rfl hk HM) ?_;have e1:D.clos.map zx++[zx m]=(D.take m).clos.map zx:=(aB (l₁:=D.clos) (l₂:=[m])).symm;rw[e1];have DA:=S.dis _ (znD o);have Du:sU (U.set o.br (.list ((D.take m).clos.map zx))) a D:=S.L.other DA;have O1:tf (U.set o.br (.list ((D.take m).clos.map zx))) o v (D.take m):=⟨zp S.O.d (S.O.nod S.O.r),zp S.O.b S.O.nr.1,zp S.O.k S.O.nr.2,su.wA ..,S.O.nd,S.O.nr⟩
 have EC:Fr U a o (U.set o.br (.list ((D.take m).clos.map zx))) a.pt:=Fr.own (znD o);unfold A.w1;generalize U.set o.br (.list ((D.take m).clos.map zx))=σ1 at Du O1 EC ⊢;refine zk Du.s Du.d (zgP G (aw hd (by decide)) Du I.ok hm λσ3 fr Mu=>?_);have I3:=zpS I hm (zFF hk HM);have Qi:Fr U a o σ3 a.pt:=λx z e h1 h2=>⟨fr x z (λh=>h1 (h▸zc2 a)) (λh=>h1 (h▸zsu a)) (EC x z e h1 h2).1,(EC x z e h1 h2).2⟩
 have Ox:=O1.keep (λy hy z e=>fr y z (λh=>S.dis y hy (h▸zc2 a)) (λh=>S.dis y hy (h▸zsu a)) e);have S3:St σ3 a o v (D.take m) (k+1):=⟨Mu,Ox,S.dis,I3,bS S.few,by show (D.clos++[m]).length<=k+1;rw[aq,aG];exact zb 0x24344828008006 rfl HM⟩
 refine zJ Ox.d (ze rfl ?_);have e2:(m0::t0).filter (λx=>!decide (x=m))=srt sM (D.take m).tick:=by
  show _=srt sM (D.tick.erase m);rw[<-hS,zqx Mq,zlw I]
 refine zbh (D:=D.take m) (m:=m) G (aw hd (by decide)) Mu I3.ok (λh=>?_) Ox.r e2 ?_
 .exact((zaQ I).mem_erase_iff.mp (show m∈D.tick.erase m from h)).1 rfl
 exact q σ3 (D.take m) _ S3 rfl Qi
def Ah(X:Cx):AS:=(Gc (Gq (kr [Gi (Gf ai .Mod (Ga 2) (Gb (.int 8))) [(.Eq,(Gb (.int 6)))],Gi (Ga 4) [(.NotEq,(Gr ai []))]]) (Gc (Gh 5 (Gg (Ga 4) (Gf ai .Mod (Gf ai .FloorDiv (Ga 2) (Gb (.int 8))) (Gj jI ai [Ga 4])))) (Gc (Gh 7 (Gu ai (Gp (Ga 4)) (.one 9) 2 (ae (Gi (Ga 9) [(.NotEq,(Ga 5))])) (Ga 9))) (Gc (Gs (Gw zX (Gg (Ga 1) (Gb (.str 18))) [Ga 5])) (Gc (Gk (kr [Gi (Gv X 245 af 235 (Ga 0) [Ga 5]) [(.Is,(Gb .none))],Gm X 282 [Ga 0,Ga 5,Ga 7,Gg (Ga 1) (Gb (.str 18)),Gf ai .FloorDiv (Ga 2) (Gb (.int 13))]])) Ge)))) Ge) (Gc (Gq (Gi (Gf ai .Mod (Ga 2) (Gb (.int 8))) [(.Eq,(Gb (.int 6)))]) (Gc (Gk (Gm X 282 [Ga 0,Gn [Gn [Gf ai .Mod (Gf ai .FloorDiv (Ga 2) (Gb (.int 8))) (Gb (.int 3))],Gn [Gf ai .Mod (Gf ai .FloorDiv (Ga 2) (Gb (.int 24))) (Gb (.int 3))]],Ga 4,Gg (Ga 1) (Gb (.str 18)),Gf ai .FloorDiv (Ga 2) (Gb (.int 11))])) Ge) Ge) (Gc (Gq (Gi (Gf ai .Mod (Ga 2) (Gb (.int 8))) [(.Eq,(Gb (.int 7)))]) (Gc (Gk (Gi (Gv X 245 af 242 (Ga 0) []) [(.Is,(Gb .none))])) Ge) Ge) (Gc (Gk (Gm X 275 [Ga 0,Ga 1,Gm X 263 [Gf ai .FloorDiv (Ga 2) (Gb (.int 8)),Ga 1],Ga 3])) Ge))))
theorem znQ(G:Gd (X.push L) (hK P))(hd:n<470)(S:St U a o v D k)(hk:k<=50)(hT:v.tk=srt sM D.tick)(h6:decide (c.fmod 8=6)=ag)
  (q:∀U' D' l,St U' a o v D' (k+1)->D'.span=D.span->Fr U a o U' a.pt->S_ (.ret (.bool ag)) l U') :
  Ah (X.push L) ⟨n,ai⟩ (xd a o c D (ae (.lst (v.tk.map zx))) u5 u6 u7) S_ SZ U:=by
 refine qp h6 (zkz (k:=2) (kL _) (by decide) ?_);rw[oV,hT];cases hS:srt sM D.tick with
 | nil=>
  refine qp h6 (zJ S.O.d (ze rfl ?_));exact zbh (m:=([(c.fdiv 8).fmod 3],[(c.fdiv 24).fmod 3])) G (aw hd (by decide)) S.L S.I.ok (λh=>by rw[<-mem_srt,hS] at h;cases h) S.O.r hS.symm (q U D _ S.mono rfl (Fr.refl a o))
 | cons m0 t0=>exact zsY G hd S hk hS q
theorem zsX(G:Gd (X.push L) (hK P))(hd:n<470)(S:St U a o v D k)(hk:k<=50)(hv:ub v)(h6:decide (c.fmod 8=6)=ai)
  (q:∀U' pt D' l,St U' { a with pt:=pt } o v D' (k+1)->D'.span=D.span->Fr U a o U' pt->S_ (.ret (.bool ag)) l U') :
  Ah (X.push L) ⟨n,ai⟩ (xd a o c D u4 u5 u6 u7) S_ SZ U:=by
 refine qo h6 (qo h6 (zaS (λh7=>?_) λh7=>?_))
 .refine zk S.L.s S.L.d (znq G (aw hd (by decide)) S.L S.I λσ3 pt D' fr hpt Mu I3 sb=>?_);have O3:=S.O.keep (λy hy z e=>fr y z (λh=>S.dis y hy (h▸zkx _)) e);exact zI sb λb1 b2 b3 b4=>q σ3 pt D' _ ⟨Mu,⟨O3.d,by rw[b1];exact O3.b,by rw[b2];exact O3.k,by rw[b4];exact O3.r,O3.nd,O3.nr⟩,znU S.O S.dis hpt,I3,by rw[b1,b2];exact bS S.few,by rw[b4];exact bS S.clk⟩ b3 (Fr.dx fr hpt)
 .exact zgh G hd S.O hv λs e he=>zjh G hd S hk he λU' pt D' h1 h2 h3=>q U' pt D' _ h1 h2 h3
end
theorem zql(G:Gd X (hK P))(hd:n<460)(S:St U a o v D k)(hv:ub v)(hk:k<=50)(hT:v.tk=srt sM D.tick)(hs:v.seen.length<=10000)(q:zyD U a o v D k Q):sy X 287 ⟨n,ai⟩ [.ref a.self,.ref o.od,.int c,.int D.span] Q Z U:=by
 have Dd:n+1<470:=aw (bH hd) (by decide);refine ztc G (aw hd (by decide)) λL=>zsW (R:=Gc (Gq (Gi (Gf ai .Mod (Ga 2) (Gb (.int 8))) [(.Eq,(Gb (.int 6)))]) (By (X.push L)) Ge) (Ah (X.push L))) S hk hT hs λσ1 sn S1 EC EL=>zaS (λh6=>?_) λh6=>?_
 .refine zsZ (v:={ v with seen:=sn }) (G.push L) Dd S1 hT (ap EL (ap (eU hs 100) (by decide))) λu6=>?_;exact znQ (v:={ v with seen:=sn }) (G.push L) Dd S1 hk hT h6 λU' D' l h1 h2 h3=>sD.same (q U' a.pt D' _ h1 h2 (EC.trans h3) EL)
 .exact zsX (v:={ v with seen:=sn }) (G.push L) Dd S1 hk ⟨hv.days,hv.scale,hv.base,hv.step⟩ h6 λU' pt D' l h1 h2 h3=>sD.same (q U' pt D' _ h1 h2 (EC.trans h3) EL)
end
section
variable{P:Hm}{X:Cx}{n:Nat}{Q:zt}{Z:XP}{U:su}{o:OA}{v:OV}{D:sJ}
theorem zfC(G:Gd X (hK P))(hd:n<590)(h1:1<=ns.length)(h3:ns.length<=3)(hr:tA ns m)(q:Q (.bool ag) U):sy X 294 ⟨n,ai⟩ [kR ns,.int m] Q Z U:=by
 refine zow G (aw hd (by decide)) λL=>?_
 conv=>whnf
 rw[am];refine qp (H3 (Int.ofNat_le.mpr h1)) (qo (by rw[H3 (show (ns.length:Int)<=3 by exact zwJ h3)];rfl) (qE (g:=AV.int) (λ(b:Int) (u:Option AV)=>[ae (kR ns),ae (.int m),ae (.int b),u]) (λ_=>U) (λxs b=>(∀x∈xs,b<x/\x<m)/\xs.Pairwise (· < ·)) (λ_ x=>x) (λx xs b u K S_ hJ=>?_) (b:=-1) (λu=>sD.same q) ⟨λx hx=>⟨nG (by decide) (hr.2 x hx).1,(hr.2 x hx).2⟩,hr.1⟩));have h:=hJ.1 x aj;have pw:=List.pairwise_cons.mp hJ.2;refine⟨⟨λy hy=>⟨pw.1 y hy,(hJ.1 y (al _ hy)).2⟩,pw.2⟩,λhK=>zf _ rfl ?_⟩;exact qp (H3 h.1) (qo (by rw[H3 h.2];rfl) ⟨trivial,hK _⟩)
noncomputable def wi(es:List td)(p:Int):td:=(qN es p,zT es p)
theorem zhC(G:Gd X (hK P))(hd:n<580)(O:tf U o v D)(ho:t5 D)(F:tG D m)(q:Q (.bool ag) U):sy X 299 ⟨n,ai⟩ [zx m,.ref o.od,.int D.span] Q Z U:=by
 have Dd:n+1<581:=bH hd;have l1:m.1.length<=3:=F.sm.1.1;have l2:m.2.length<=3:=F.sm.2.1;have one:=F.one;have g1:1<=m.1.length:=zwL one;have g2:1<=m.2.length:=zwM one;refine zjc G (aw hd (by decide)) λL=>zJ O.d (ze rfl ?_);refine ze (zB O.b) ?_;rw[am];refine zfC (G.push L) (aw Dd (by decide)) g1 l1 F.r1 (zJ O.d (ze rfl ?_));refine ze (zB O.k) ?_;rw[am];refine zfC (G.push L) (aw Dd (by decide)) g2 l2 F.r2 (z8 (λp=>zD (wi D.es p)) (λ_=>rfl) (λ_ _=>rfl) (λp hp R q=>?_) trivial (zkc l1) ?_)
 .exact zJ O.d (ze rfl (jE O.b (ze (zfR (F.r1.2 p hp).1 (F.r1.2 p hp).2) q)))
 refine z8 (λp=>zD (wi D.fs p)) (λ_=>rfl) (λ_ _=>rfl) (λp hp R q=>?_) trivial (zkc l2) ?_
 .exact zJ O.d (ze rfl (jE O.k (ze (zfR (F.r2.2 p hp).1 (F.r2.2 p hp).2) q)))
 refine zN (by rw[am,am];exact ap (cC l1 l2) (by decide)) ?_;have e1:m.1.map (λp=>zD (wi D.es p))=(m.1.map (wi D.es)).map zD:=by rw[aL];rfl
 have e2:m.2.map (λp=>zD (wi D.fs p))=(m.2.map (wi D.fs)).map zD:=by rw[aL];rfl
 rw[e1,e2,<-aB];refine z8 (λe:td=>.int e.1) (λ_=>rfl) (λ_ _=>rfl) (λe he R q=>q) trivial (by rw[aq,am,am];exact ap (cC l1 l2) (by decide)) (z8 (λe:td=>.int e.2) (λ_=>rfl) (λ_ _=>rfl) (λe he R q=>q) trivial (by rw[am];exact zkc l1) (zdJ (ns:=m.1.map (zT D.es)) (by rw[aL,aL];rfl) (zbw ho.es (zng l1)) (z8 (λe:td=>.int e.2) (λ_=>rfl) (λ_ _=>rfl) (λe he R q=>q) trivial (by rw[am];exact zkc l2) (zdJ (ns:=m.2.map (zT D.fs)) (by rw[aL,aL];rfl) (zbw ho.fs (zng l2)) ?_))));have fit:=F.fit;unfold tW at fit;obtain⟨f1,f2⟩:=zG fit;refine qp f1 (qp (by rw[am,am,am,am];exact H3 (zwK one)) ?_);have ed:(m.1.map (wi D.es)++m.2.map (wi D.fs)).map (λe:td=>AV.int e.1)=(qS D.es D.fs m).map .int:=by
  unfold qS;rw[aB,aB,aL,aL,aL,aL];rfl
 have CL:qS D.es D.fs m≠[]:=λh=>by
  have:=congrArg dH h;unfold qS at this;rw[aq,am,bG] at this;exact zb 0x1d010504602406 rfl g1 this
 rw[ed];refine zkP CL λM JZ JB=>zgq CL λN RX Qa=>?_;have e3:=zfI (span:=D.span) JZ JB RX Qa;rw[f2] at e3;rw[<-e3] at q;exact sD.same q
end
section
variable{P:Hm}{X:Cx}{n:Nat}{Q:zt}{Z:XP}{U:su}{o:OA}{v:OV}{D:sJ}
noncomputable def vx(D:sJ)(w:Nat):List AV:=bif ch w 17 then (srt sM D.tick).map zx else bif ch w 18 then D.clos.map zx else bif ch w 1 then (D.left ag).map λi:Nat=>.int i else (D.left ai).map λi:Nat=>.int i
noncomputable def jf(D:sJ)(ks:List Nat):List (Nat×AV):=ks.map λk=>(k,.lst (vx D k))
noncomputable def vd:List Nat:=[17,18,0,1]
theorem zbS(D)(ks):(jf D ks).map (·.1)=ks:=by unfold jf;rw[aL];exact eV _
theorem zn0(h:k∉fs.map (·.1)):jl fs k x=fs++[(k,x)]:=by
 induction fs with
 | nil=>rfl
 | cons f fs ih=>
  rw[aY,bR,not_or] at h;rw[znZ,zo5,H0 (bO h.1),ih h.2];rfl
theorem zbc(h:ks.Perm vd)(hk:k∈vd):kF (jf D ks) k=ae (.lst (vx D k)):=
 zd9 (f:=(k,.lst (vx D k))) (by rw[zbS];exact h.nodup_iff.mpr (by decide)) (List.mem_map.mpr (zf k (h.mem_iff.mpr hk) rfl))
theorem zqq{l:List Nat}:∀{j:Nat} (h:j<l.length),(l[j]::l.eraseIdx j).Perm l:=by
 induction l with
 | nil=>exact λh=>absurd h (dF _)
 | cons x l ih=>
  intro j h;cases j with
  | zero=>exact il _
  | succ j=>exact(List.Perm.swap _ _ _).trans ((ih (Nat.lt_of_succ_lt_succ h)).cons x)
theorem zs0{f:Nat->AV}{l:List Nat}:∀{j:Nat},(l.map f).eraseIdx j=(l.eraseIdx j).map f:=by
 induction l with
 | nil=>exact rfl
 | cons x l ih=>
  intro j;cases j with
  | zero=>rfl
  | succ j=>exact congrArg (f x::·) ih
structure xo(U:su)(D:sJ)(pw p:aH)(k:Nat)(ws ks:List Nat)(U':su):Prop where
 sub:Sub U U'
 nw:U pw=af
 np:U p=af
 ne:pw≠p
 hw:U' pw=ae (.list (ws.map .str))
 hp:U' p=ae (.idict (jf D ks))
 pm:(ws++ks).Perm vd
 len:ws.length=k
theorem xo.take{pw p:aH}{k:Nat}{ws ks:List Nat}{U':su}(H:xo U D pw p (k+1) ws ks U'){j:Nat}(hj:j<ws.length):xo U D pw p k (ws.eraseIdx j) (ks++[ws[j]]) ((U'.set pw (.list ((ws.eraseIdx j).map .str))).set p (.idict (jl (jf D ks) ws[j] (.lst (vx D ws[j]))))):=by
 have pm:(ws.eraseIdx j++(ks++[ws[j]])).Perm vd:=by
  refine dE ?_ H.pm;rw[<-aR];refine List.perm_append_comm.trans ?_;show (ws[j]::(ws.eraseIdx j++ks)).Perm _;exact(zqq hj).append_right ks
 have nk:ws[j]∉ks:=λh=>by
  have nd:(ws.eraseIdx j++(ks++[ws[j]])).Nodup:=pm.nodup_iff.mpr (by decide);have nd:=(List.nodup_append.mp (List.nodup_append.mp nd).2.1).2.2;exact nd _ h _ aj rfl
 have e:jl (jf D ks) ws[j] (.lst (vx D ws[j]))=jf D (ks++[ws[j]]):=by
  rw[zn0 (by rw[zbS];exact nk)];unfold jf;rw[aB];rfl
 rw[e];exact⟨λa z q=>zp (zp (H.sub a z q) (λh=>by rw[h,H.nw] at q;exact nos q)) (λh=>by rw[h,H.np] at q;exact nos q),H.nw,H.np,H.ne,zp (su.wA ..) H.ne,su.wA ..,pm,by rw[List.length_eraseIdx_of_lt hj,H.len];rfl⟩
noncomputable def AT(a:LA)(w:Int)(pw p:aH)(u x:Option AV):Loc:=[ae (.ref a.self),ae (.int w),ae (.ref pw),ae (.ref p),u,x]
theorem zl7{L:fB}(G:Gd (X.push L) (hK P))(hd:n<540){a:LA}(hL:sU U a D)(ho:t5 D){pw p:aH}{k:Nat}{ws ks:List Nat}{U':su}(H:xo U D pw p (k+1) ws ks U'){w:Int}{u x:Option AV}{I:su->Prop}(hI:∀U,I U){K:Loc->su->Prop}{S:je}
  (hK:∀w' Nz Ot σ2 u x,xo U D pw p k Nz Ot σ2->K (AT a w' pw p u x) σ2):Bn (X.push L) ⟨n,ai⟩ (AT a w pw p u x) (G0 I K S) G1 U':=by
 have EH:0<ws.length:=by rw[H.len];exact dG k
 refine zo H.hw (ze (zB H.hw) ?_);have MY:(ws.map AV.str).length=ws.length:=am _;refine jr (b:=wl ((ws.map AV.str).length:Int)) (zgs (by rw[MY];exact EH)) (zo H.hw ?_);have b0:(0:Int)<((ws.map AV.str).length:Int):=by rw[MY];exact Int.ofNat_lt.mpr EH
 have b1:=bd w b0;have b2:=bu w b0;generalize w.fmod ((ws.map AV.str).length:Int)=i at b1 b2 ⊢;obtain⟨j,rfl⟩:=d7 b1;have hj:j<ws.length:=by rw[MY] at b2;exact Int.ofNat_lt.mp b2
 refine jr (H3 b1) (ze (a:=.str ws[j]) (by rw[dI,bQ,aC hj];rfl) ?_);unfold A.w1;rw[dI,zs0];have T:=H.take hj;have s1:Sub U (U'.set pw (.list ((ws.eraseIdx j).map AV.str))):=λa z q=>zp (H.sub a z q) λh=>by rw[h,H.nw] at q;exact nos q
 have Ec:(U'.set pw (.list ((ws.eraseIdx j).map AV.str))) p=ae (.idict (jf D ks)):=zp H.hp (bO H.ne);have Du:=hL.sub s1;have E3:(jf D ks).length<100:=by
  have:=H.pm.length_eq;rw[aq] at this;show (nS _ ks).length<100;rw[am];exact cU (Nat.le_add_left _ _) (cU (bp this) (by decide))
 have hm:ws[j]∈vd:=H.pm.mem_iff.mp (aW _ (cH hj));generalize U'.set pw (.list ((ws.eraseIdx j).map AV.str))=σ1 at T Ec Du ⊢;have fin:=λw' u x=>hK w' _ _ _ u x T;clear T;generalize ws[j]=y at hm fin ⊢
 rcases List.mem_cons.mp hm with e|hm
 .subst e;exact zk Du.s Du.d (zev G (aw hd (by decide)) Du ho (kg Ec E3 ⟨hI _,fin _ _ _⟩))
 rcases List.mem_cons.mp hm with e|hm
 .subst e;exact zk Du.s Du.d (zcM G (aw hd (by decide)) Du (kg Ec E3 ⟨hI _,fin _ _ _⟩))
 rcases List.mem_cons.mp hm with e|hm
 .subst e;exact zk Du.s Du.d (zkJ (s:=ai) G (aw hd (by decide)) Du ho (kg Ec E3 ⟨hI _,fin _ _ _⟩))
 .have e:=List.mem_singleton.mp hm;subst e;exact zk Du.s Du.d (zkJ (s:=ag) G (aw hd (by decide)) Du ho (kg Ec E3 ⟨hI _,fin _ _ _⟩))
theorem zkK(G:Gd X (hK P))(hd:n<520){a:LA}(hL:sU U a D)(ho:t5 D){w:Int}(q:∀p ks,ks.Perm vd->U p=af->Q (.ref p) (U.set p (.idict (jf D ks)))):sy X 306 ⟨n,ai⟩ [.ref a.self,.int w] Q Z U:=by
 refine zth G (aw hd (by decide)) λL=>?_;intro pw MU p hp;have NQ:U p=af:=Sub.none (zF MU) hp;have ne:pw≠p:=zeA (su.wA ..) hp;refine⟨su.wA ..,ze (a:=[]) rfl ?_⟩;rw[zaO];refine jr (b:=xu 0 4) rfl (qB (β:=Unit) (xs:=([0,1,2,3]:List Int)) (g:=AV.int) (λ_ (c:Int×Option AV×Option AV)=>AT a c.1 pw p c.2.1 c.2.2) (λxs _ _ U'=>∃ws ks,xo U D pw p xs.length ws ks U') (λb _=>b) (λi xs _ c U' K S_ hR hK=>zQ hR λws hR=>zQ hR λks H=>zf _ rfl (zl7 (G.push L) (aw (bH hd) (by decide)) hL ho H (λ_=>trivial) λw' Nz Ot σ2 u x H2=>hK (w',u,x) _ ⟨Nz,Ot,H2⟩)) (b:=()) (c:=(_,_,_)) (λc U' hR=>z0 hR λws ks H=>?_) ⟨vd,[],Sub.put (zF MU) NQ,MU,NQ,ne,zp (su.wA ..) ne,su.wA ..,il _,rfl⟩);have e:ws=[]:=cz H.len;have pm:=H.pm;rw[e] at pm;refine sD.drop (U':=U.set p (.idict (jf D ks))) (λb z e=>?_) (q p ks pm NQ)
 by_cases hb:b=p
 .rw[hb,su.wA] at e;rw[hb,<-e];exact H.hp
 .rw[su.wB _ _ hb] at e;exact H.sub _ _ e
end
section
variable{P:Hm}{X:Cx}{n:Nat}{Q:zt}{Z:XP}{U:su}{o:OA}{v:OV}{D:sJ}
theorem zy6{i:Int}{ns:List Int}{R:Bool->su->Prop}(q:R (decide (i∈ns)) U):uS (.int i) (.lst (ns.map .int)) R U:=
 zck (k:=0) (.inl rfl) (.int i) (λy hy=>by refine za (List.mem_map.mp hy) λj _ e=>?_;rw[<-e];exact .int j) (by decide) (λh=>by refine za (List.mem_map.mp h) λj hj e=>?_;rw[H3 (znv e▸hj)] at q;exact q) λh=>by rw[H0 λe=>h (b8 e)] at q;exact q
theorem ztn(h:uE U x y ag)(q:R ag U):xS x y R U:=by
 unfold xS;exact zv h λa b h1 h2 h3 _ h5=>(zK a b ag h1 h2 h3 h5 q)
theorem zoM(h:0<m.1.length):uE U (.tup [.int 0,.tup []]) (xF m) ag:=by
 refine jh (.tuple [.int 0,.tuple []]) (xz m) (.tup (.cons (.int 0) (.cons (.tup .nil) .nil))) (zjg m) (by decide) (zjf m) ?_;have h1:aU (.int 0) (.int (uj m))=ai:=by rw[zdA];exact beq_eq_false_iff_ne.mpr (by unfold uj;exact zb 0x1c39066881980945006 rfl h)
 show (if aU (.int 0) (.int (uj m))=ag then _ else uc (.int 0) (.int (uj m)))=_;rw[h1,if_neg cT,zcq,H3 (by unfold uj;exact zwQ h)]
noncomputable def we(b:List Mt):List (Nat×AV):=[(0,.lst ((te ai b).map .int)),(1,.lst ((te ag b).map .int))]
noncomputable def uf(p:aH)(o:OA)(D:sJ)(r:aH)(ah:List AV)(u6 u7 u8 u9:Option AV):Loc:=[ae (.ref p),ae (.ref o.od),ae (.int D.span),ae (.lst ((srt sM D.tick).map zx)),ae (.ref r),ae (.tup ah),u6,u7,u8,u9]
structure AZ(U:su)(D:sJ)(r:aH)(b xs:List Mt)(ah:List AV)(U':su):Prop where
 all:b++xs=srt sM D.tick
 ah:∀m∈xs,∀τ,uE τ (.tup ah) (xF m) ag
 at_:U'=U.set r (.idict (we b))
theorem ziv(s)(b)(m):te s (b++[m])=te s b++sd s m:=by unfold te;rw[gS,List.flatMap_singleton]
theorem zlc(h:b++xs=srt sM D.tick)(I:Inv D):(te s b).length<=80:=by
 have h1:=zj6 I s;rw[<-h] at h1;have h2:(te s (b++xs)).length=(te s b).length+(te s xs).length:=by unfold te;rw[gS,aq]
 have h3:(D.row s).length<=80:=by
  cases s with
  | false=>exact I.ok.few.1
  | true=>exact I.ok.few.2
 exact zg 0xa12000001424201860a044610406 rfl h1 h2 h3
theorem zqF(G:Gd (X.push L) (hK P))(hd:n<540)(O:tf U o v D)(I:Inv D)(hr:U r=af)(H:AZ U D r b (m::xs) ah U'){J:su->Prop}(hJ:∀U,J U){K:Loc->su->Prop}
  (hK:∀Mh σ2 u6 u7,AZ U D r (b++[m]) xs Mh σ2->K (uf p o D r Mh u6 u7 u8 u9) σ2):BH (X.push L) ⟨n,ai⟩ (uf p o D r ah (ae (zx m)) u7 u8 u9) (G0 J K S) G1 U':=by
 have D9:=H.all;have hm:m∈D.tick:=mem_srt.mp (D9▸aJ _ aj);have F:=I.fits m hm;have O':tf U' o v D:=H.at_▸O.sub (zF hr);have En:U' r=ae (.idict (we b)):=by rw[H.at_];exact su.wA ..
 refine zhC G (aw hd (by decide)) O' I.ok F (zJ O'.d (ze rfl ?_));refine zqG O'.r ?_;rw[H0 (I.free m hm)];have e1:AV.tup [.int (((m.1.map AV.int).length:Int)+((m.2.map AV.int).length:Int)),zx m]=xF m:=by rw[am,am];rfl
 have Jv:=H.ah m aj;rw[<-e1] at Jv;refine ztn (Jv _) ?_;have l1:m.1.length<=3:=F.sm.1.1;have l2:m.2.length<=3:=F.sm.2.1;refine zJ En (ze rfl ?_);refine zN (by rw[am,am];exact ap (cC (zlc D9 I) l1) (by decide)) ?_;rw[<-aB];refine kg En (show 2<100 by decide) ?_;have Fa:(U'.set r (.idict (jl (we b) 0 (.lst ((te ai b++m.1).map .int))))) r=ae (.idict [(0,.lst ((te ai b++m.1).map .int)),(1,.lst ((te ag b).map .int))]):=su.wA ..;refine zJ Fa (ze rfl ?_);refine zN (by rw[am,am];exact ap (cC (zlc D9 I) l2) (by decide)) ?_;rw[<-aB];refine kg Fa (show 2<100 by decide) ⟨hJ _,hK _ _ _ _ ⟨by rw[aR];exact D9,λm' Mw τ=>?_,?_⟩⟩
 .refine e1.symm▸?_;have pw:=ztU I;rw[<-D9] at pw;have pw:=List.pairwise_cons.mp (List.pairwise_append.mp pw).2.1;have:=zkI (U:=τ) F.sm (I.fits m' (mem_srt.mp (D9▸aJ _ (al _ Mw)))).sm;rwa [H3 (pw.1 m' Mw)] at this
 .rw[H.at_,zaO,zaO];unfold we;rw[ziv,ziv];rfl
theorem zl6(s):vx D s.toNat=(D.left s).map λi:Nat=>AV.int i:=by cases s<;>rfl
theorem zrw(s:Bool):s.toNat∈vd:=by cases s<;>decide
theorem zj4(h:τ r=ae (.idict (we b)))(q:Q (.lst ((te s b).map .int)) τ):uP r (.str s.toNat) Q τ:=by
 refine zJ h ?_;cases s<;>exact q
theorem zfp(l:List Nat):∀x∈l.map (λi:Nat=>AV.int i),sN 2 x:=λx hx=>by refine za (List.mem_map.mp hx) λm _ e=>?_;rw[<-e];exact .int _
theorem zkF(O:tf U o v D)(I:Inv D)(Jl:D.es.length+D.fs.length<=24){ks:List Nat}(hk:ks.Perm vd)(hp:U p=ae (.idict (jf D ks)))(hr:U r=ae (.idict (we (srt sM D.tick)))){s:Bool}{J:su->Prop}(hJ:J U){K:Loc->su->Prop}
  (hK:∀u9,K (uf p o D r ah u6 u7 (ae (.str s.toNat)) u9) U):BZ X ⟨d,ai⟩ (uf p o D r ah u6 u7 (ae (.str s.toNat)) u9) (G0 J K S) G1 U:=by
 refine zJ hp (ze (zbc hk (zrw s)) ?_);rw[zl6];refine zj4 hr ?_;show yP _ _ _;unfold yP;refine zz (te s (srt sM D.tick)) rfl ⟨λx hx=>?_,zrJ I s Jl⟩ (λN hN=>?_)
 .have h:=zld I hx;have h3:(D.row s).length<=80:=by
   cases s with
   | false=>exact I.ok.few.1
   | true=>exact I.ok.few.2
  exact⟨h.1,zwC h h3⟩
 refine zj4 hr ?_;have hN:=hN.mpr (zfK I s);refine qo (by rw[am,hN,H3 rfl];rfl) (zdF O (ze (zB (O.row s)) ?_));rw[am];have h3:(D.row s).length<=1000000:=ap (zpu I.ok s).len (by decide);refine zdm h3 (jm (λi:Nat=>!decide ((i:Int)∈te s (srt sM D.tick))) (λi:Nat=>.int i) (λ_=>rfl) (λ_ _=>rfl) (λi _ R q=>zj4 hr (zy6 q)) (λi _ _ R q=>q) trivial (by rw[be];exact h3) ?_);rw[<-zoF];exact znY (zfp _) (by decide) ⟨hJ,hK _⟩
theorem zhn(G:Gd X (hK P))(hd:n<500)(O:tf U o v D)(I:Inv D)(Jl:D.es.length+D.fs.length<=24){ks:List Nat}(hk:ks.Perm vd)(hp:U p=ae (.idict (jf D ks)))(q:Q (.bool ag) U):sy X 311 ⟨n,ai⟩ [.ref p,.ref o.od,.int D.span] Q Z U:=by
 have Dd:n+1<540:=aw (bH hd) (by decide);refine zqQ G (aw hd (by decide)) λL=>zJ hp (ze (zbc hk (by decide)) ?_);refine zJ hp (ze (zbc hk (by decide)) ?_);refine zJ hp (ze (zbc hk (by decide)) ?_);refine zJ O.d (ze rfl ?_);refine ziP O.r (kL _) (by decide) ?_;intro r hr;refine⟨su.wA ..,ze (a:=we []) rfl ?_⟩;rw[zaO];refine qB (g:=zx) (λ_ (c:List AV×Option AV×Option AV)=>uf p o D r c.1 c.2.1 c.2.2 af af) (λxs b c U'=>AZ U D r b xs c.1 U') (λb m=>b++[m]) (λm xs b c U' K S_ H hK=>zf _ rfl (zqF (G.push L) Dd O I hr H (λ_=>trivial) λMh σ2 u6 u7 H2=>hK (Mh,u6,u7) _ H2)) (b:=[]) (c:=(_,_,_)) (λc U' H=>?_) ⟨rfl,λm hm τ=>zoM (List.length_pos_iff.mpr (I.fits m (mem_srt.mp hm)).go.2.1),rfl⟩;have e:=H.all;rw[bz] at e;have hs:=H.at_;rw[e] at hs;have sb:Sub U U':=hs▸zF hr;have En:U' r=ae (.idict (we (srt sM D.tick))):=by rw[hs];exact su.wA ..
 exact zf _ rfl (zkF (s:=ai) (O.sub sb) I Jl hk (sb _ _ hp) En trivial λu9=>zf _ rfl (zkF (s:=ag) (O.sub sb) I Jl hk (sb _ _ hp) En trivial λu9=>sD.drop sb q))
end
section
variable{P:Hm}{X:Cx}{n:Nat}{Q:zt}{Z:XP}{U:su}{o:OA}{v:OV}{D:sJ}
theorem zh4(h:i::xs=iD a m):i=a/\∃j,m=j+1/\xs=iD (a+1) j:=by
 cases m with
 | zero=>cases h
 | succ j=>rw[oW] at h;cases h;exact zah rfl j rfl rfl
noncomputable def vN(f:Int)(j:Nat):td:=(f+40*j,1+j)
structure tT(D:sJ)(s:Bool)(f:Int)(j:Nat):Prop where
 row:D.row s=(bJ j).map (vN f)
 no:D.row (!s)=[]
 tick:D.tick=[]
 clos:D.clos=[]
theorem zoD(I:t5 D)(h:tT D s f j)(ht:t∈ti D.es D.fs):∃k:Nat,t=(f+40*k,(s,(k:Int))):=by
 refine zl (qI I.es I.fs (inO_mem.mp ht)).2 λk e1 hk e2=>?_;have hk:k<(D.row t.2.1).length:=hk;have e2:((D.row t.2.1).getD k (0,0)).1=t.1:=e2;have hs:t.2.1=s:=by
  refine cj λhn=>?_;have:t.2.1 = !s:=by cases s<;>cases ht:t.2.1<;>first|rfl|exact absurd ht hn
  rw[this,h.no] at hk;exact absurd hk (dF _)
 rw[hs,h.row] at hk e2;rw[am,be] at hk;rw[aF,bQ,mX hk] at e2;refine⟨k,?_⟩;have e3:t.2=(s,(k:Int)):=mh hs e1;exact mh e2.symm e3
theorem zfs(I:t5 D)(h:tT D s f j)(hg:g∈D.grps)(hy:y∈g):∃k:Nat,y=(s,(k:Int))/\uz D y=f+40*k:=by
 have:y∈(ti D.es D.fs).map (·.2):=by rw[<-km D.es D.fs D.span];exact List.mem_flatten.mpr (zf g hg hy)
 refine za (List.mem_map.mp this) λt ht e=>zQ (zoD I h ht) λk e'=>⟨k,by rw[<-e,e'],?_⟩
 rw[<-e,zkG I ht,e']
theorem zlX(I:t5 D)(h0:0<=D.span)(hi:D.span<=30)(h:tT D s f j)(hg:g∈D.grps):g.length<=8:=by
 cases hx:g with
 | nil=>exact aE _
 | cons x l=>
  rw[<-hx];have all:∀y∈g,y=x:=(zf9 I h0).2 g hg (· = x) ⟨x,by rw[hx];exact aj,rfl⟩ λa b ha hb h1 h2 e=>by
   refine za (zfs I h hg ha) λk e1 d1=>za (zfs I h hg hb) λl e2 d2=>?_;rw[d1,d2] at h1 h2;have:k=l:=by lia
   rw[<-e,e1,e2,this]
  exact ap (zbi (u:=[x]) (zaf (zbN D) hg) λy hy=>by rw[all y hy];exact aj) (ba rfl)
theorem zq0(I:t5 D)(h:tT D s f j)(hg:g∈D.grps)(h8:g.length<=8):pk (D.able g) g=[]:=by
 refine List.eq_nil_iff_forall_not_mem.mpr λm hm=>?_;have hw:=zkQ (zof I hg h8) (zdP (zpi hm)).1;have go:=hw.1.go.2;have no:∀p,(!s,p)∈zr m->False:=λp hp=>by
  have:=(zfj hg (hw.2 _ hp))
  have h2:p<((D.row (!s)).length:Int):=this.2;rw[h.no] at h2;exact absurd (dV this.1 h2) (iP _)
 cases s with
 | false=>exact zQ (iy _ go.2) λp hp=>no p (mem_marks.mpr (.inr ⟨rfl,hp⟩))
 | true=>exact zQ (iy _ go.1) λp hp=>no p (mem_marks.mpr (.inl ⟨rfl,hp⟩))
theorem zlh(D:sJ)(s)(e):(D.add s e).row (!s)=D.row (!s):=by cases s<;>rfl
theorem zoC{s:Bool}{f:Int}{j:Nat}(h:tT D s f j):tT (D.add s (vN f j)) s f (j+1):=
 ⟨by rw[zb4,h.row,gP,aB];rfl,by rw[zlh];exact h.no,by rw[zaZ];exact h.tick,by rw[zdQ];exact h.clos⟩
theorem zlY(I:t5 D)(h:tT D s f j)(hg:g∈D.grps)(h8:g.length<=8):tT (D.pick g) s f j:=by
 refine⟨h.row,h.no,?_,h.clos⟩;show (D.tick.filter _)++pk (D.able g) g=[]
 rw[zq0 I h hg h8,h.tick];rfl
theorem zlW(h:f=5000\/f=0)(hj:j<=13):k7 (vN f j).1 (vN f j).2=ag:=by
 unfold k7 vN;have h1:0<=f+40*(j:Int)/\f+40*(j:Int)<=9999:=by rcases h with h|h<;>(first|exact k9 0x1387c81900028b0681064000a2c1a202401388904660000d90006 rfl hj h|exact k9 0x1387c81900028b0681064000a2c1a2024404660000d90006 rfl hj h)
 have h2:0-1000000000<=1+(j:Int)/\1+(j:Int)<=1000000000/\1+(j:Int)≠0:=zvR hj;rw[H3 h1.1,H3 h1.2,H3 h2.1,H3 h2.2.1,H0 h2.2.2];rfl
structure Aq(a:LA)(o:OA)(v:OV)(sp:Int)(s:Bool)(f:Int)(N:Nat)(xs:List Nat)(j:Nat)(U':su)(pt:aH)(E:sJ):Prop where
 S:St U' { a with pt:=pt } o v E j
 L:tT E s f j
 sp:E.span=sp
 rg:xs=iD j xs.length
 len:j+xs.length=N
noncomputable def B1(a:LA)(o:OA)(c f:Int)(s:Bool)(u:Option AV):Loc:=[ae (.ref a.self),ae (.ref o.od),ae (.int c),ae (.int f),ae (.str s.toNat),u]
theorem zlZ(G:Gd (X.push L) (hK P))(hd:n<470)(hf:f=5000\/f=0)(hN:N<=13){J:su->Prop}(hJ:∀U,J U){K:Loc->su->Prop}(h:∃pt E,Aq a o v sp s f N (i::xs) j U' pt E)(hK:∀σ2,(∃pt E,Aq a o v sp s f N xs (j+1) σ2 pt E)->K (B1 a o c f s (ae (.int i))) σ2):BW (X.push L) ⟨n+1,ai⟩ (B1 a o c f s (ae (.int i))) (G0 J K S_) G1 U':=by
 refine z0 h λpt E H=>qT (zh4 H.rg) λei m em ex=>?_;subst ei;have hl:=H.len;rw[au] at hl em;have em:xs.length=m:=fN em;have SE:=H.S;have hL:=H.L;have I:=SE.I;have Ct:(E.row s).length=i:=by rw[hL.row,am,be]
 have hi:i<=13:=zvY hN hl;have Dt:(E.row s).length<80:=zvZ hN hl Ct;have he:=zlW hf hi;have D7:=zgk I.ok he Dt;have Du:=zoC hL;have D3:=zam E s (vN f i);refine zm (zbO (E.add s (vN f i)) (m:=(s,((E.row s).length:Int))) (k:=(E.row s).length) rfl (by show _<((E.add s (vN f i)).row s).length;rw[zb4,aq,aG];exact zp0)) λg gs hg GF M0=>?_;have h8:=zlX D7 (by rw[D3];exact I.lo) (by rw[D3];exact I.hi) Du GF;have KR:(small ((i:Nat):Int).natAbs||small (40:Int).natAbs)=ag:=kU zvT (zvX hN hl);refine zk SE.L.s SE.L.d (jr rfl (jr KR ?_));refine zpm (a:={ a with pt:=pt }) (e:=vN f i) G (aw (bH hd) (by decide)) SE.L I.ok he Dt hg (λ_ σ1 QH fr hp RT=>?_) λh9=>absurd h8 (Nat.not_le.mpr h9);exact jg (SE.put (zk0 I D7 GF M0 h8 (by rw[hL.tick];exact aE _)) fr hp RT) λER S2 _=>zdF ER (zo (ER.row s) (jr KR (zo (ER.row s) (zN (by rw[am];exact zt4 Dt) ⟨hJ _,hK _ ⟨QH,_,S2,zlY D7 Du GF h8,D3.trans H.sp,by rw[em];exact ex,zvW hl⟩⟩))))
theorem ztk(c:Int):∃N:Nat,jM [AV.int 0,.int 0,.int 0,.int (9+(c.fdiv 8).fmod 5)] (c.fmod 4)=ae (.int (N:Nat))/\N<=13:=by
 have b1:=bd (c.fdiv 8) (show (0:Int)<5 by decide);have b2:=bu (c.fdiv 8) (show (0:Int)<5 by decide);refine za (zcL (c:=c) (xs:=[AV.int 0,.int 0,.int 0,.int (9+(c.fdiv 8).fmod 5)]) 4 rfl (by decide)) λw hw ew=>?_;generalize (c.fdiv 8).fmod 5=y at b1 b2 hw ew ⊢;have h:∀w∈[AV.int 0,.int 0,.int 0,.int (9+y)],w = .int 0\/w = .int (9+y):=List.forall_mem_cons.mpr ⟨.inl rfl,List.forall_mem_cons.mpr ⟨.inl rfl,List.forall_mem_cons.mpr ⟨.inl rfl,List.forall_mem_cons.mpr ⟨.inr rfl,λ_ h=>nomatch h⟩⟩⟩⟩
 rcases h w hw with e|e
 .exact zf 0 (by rw[ew,e];rfl) (by decide)
 .refine zf ((9+y).toNat) ?_ (zvO b2);rw[ew,e,cN (zvN b1)]
theorem ztl(b):∃f:Int,jM [AV.int 5000,.int 0] (if b=ag then 1 else 0)=ae (.int f)/\(f=5000\/f=0):=by
 cases b
 .exact zf 5000 rfl (.inl rfl)
 .exact zf 0 rfl (.inr rfl)
theorem zqZ(G:Gd X (hK P))(hd:n<470){a:LA}(S:St U a o v D 0)(h0:D.tick=[]/\D.clos=[]){c:Int}
  (q:∀U' pt D',St U' { a with pt:=pt } o v D' 13->D'.span=D.span->D'.tick=[]->Q .none U'):sy X 318 ⟨n,ai⟩ [.ref a.self,.ref o.od,.int c] Q Z U:=by
 refine ztf G (zuw hd) λL=>zJ S.O.d (ze rfl ?_);refine za (ztl (decide (v.base>2000))) λf ef hf=>ze ef (zQ (zkp (c.fdiv 4)) λs es=>ze es (za (ztk c) λN eN hN=>ze eN (zdm (zvS hN) (qB (g:=λi:Nat=>AV.int i) (λ_ (u:Option AV)=>B1 a o c f s u) (λxs (j:Nat) _ U'=>∃pt E,Aq a o v D.span s f N xs j U' pt E) (λj _=>j+1) (λi xs j u U' K S_ H hK=>zf _ rfl (zlZ (G.push L) hd hf hN (λ_=>trivial) H λσ2 H2=>hK _ σ2 H2)) (b:=0) (λu U' H=>z0 H λpt E H=>?_) ⟨a.pt,D,S,?_,rfl,by rw[be,mI],by rw[be,ci]⟩))))
 .have SE:=H.S;have hl:List.foldl (λj x=>j+1) 0 (bJ N)=N:=H.len;rw[hl] at SE;exact sD.same (q U' pt E ⟨SE.L,SE.O,SE.dis,SE.I,ap SE.few hN,ap SE.clk hN⟩ H.sp H.L.tick)
 .have:=S.few;have h1:D.es=[]:=cz (zvU this);have h2:D.fs=[]:=cz (zvV this);exact⟨by cases s<;>first|exact h1|exact h2,by cases s<;>first|exact h1|exact h2,h0.1,h0.2⟩
end
section
variable{P:Hm}{X:Cx}{n:Nat}{Q:zt}{Z:XP}{U:su}{o:OA}{v:OV}{D:sJ}
noncomputable abbrev Pr:=aH×aH×List (Nat×AV)
noncomputable def AX(h:Pr):AV:=.tup [.ref h.1,.ref h.2.1]
noncomputable def xJ(ph:aH)(hs:List Pr):List aH:=ph::hs.flatMap λh=>[h.1,h.2.1]
def yA(F:List (Nat×AV)):Prop:=(F.map (·.1)).Nodup/\∀f∈F,sN 3 f.2
structure uw(U:su)(a:LA)(o:OA)(ph:aH)(hs:List Pr):Prop where
 here:U ph=ae (.list (hs.map AX))
 each:∀h∈hs,(U h.1=ae (.idict h.2.2)/\U h.2.1=ae (.idict h.2.2))/\yA h.2.2
 out:∀x∈xJ ph hs,x∉a.all/\x∉o.all
theorem zkZ(hh:h∈hs):h.1∈xJ ph hs/\h.2.1∈xJ ph hs:=
 ⟨al _ (List.mem_flatMap.mpr (zf h hh aj)),al _ (List.mem_flatMap.mpr (zf h hh (al _ aj)))⟩
theorem uw.frame(H:uw U a o ph hs)(fr:Fr U a o U' pt):uw U' { a with pt:=pt } o ph hs:=by
 have go:∀x z,x∈xJ ph hs->U x=ae z->U' x=ae z/\x≠pt:=λx z hx e=>fr x z e (H.out x hx).1 (H.out x hx).2;have LU:∀x∈xJ ph hs,∃z,U x=ae z:=λx hx=>by
  rcases List.mem_cons.mp hx with h|h
  .exact⟨_,h▸H.here⟩
  .refine za (List.mem_flatMap.mp h) λp hp hx=>?_;have:=(H.each p hp).1
   rcases List.mem_cons.mp hx with h|h
   .exact⟨_,h▸this.1⟩
   .exact⟨_,List.mem_singleton.mp h▸this.2⟩
 refine⟨(go _ _ aj H.here).1,λh hh=>⟨⟨(go _ _ (zkZ hh).1 (H.each h hh).1.1).1,(go _ _ (zkZ hh).2 (H.each h hh).1.2).1⟩,(H.each h hh).2⟩,λx hx=>⟨λhq=>?_,(H.out x hx).2⟩⟩;exact zQ (LU x hx) λz e=>(zjv hq).elim (go x z hx e).2 (H.out x hx).1
theorem uw.more{U':su}{a:LA}{ph p r:aH}{hs:List Pr}{F:List (Nat×AV)}(H:uw U a o ph hs)(S:sU U a D)(O:tf U o v D)(ex:∀x z,x≠o.od->U x=ae z->U' x=ae z)(hp:U p=af)(hr:U r=af)(CN:U' p=ae (.idict F))(En:U' r=ae (.idict F))(hF:yA F) :
  uw (U'.set ph (.list (hs.map AX++[.tup [.ref p,.ref r]]))) a o ph (hs++[(p,r,F)]):=by
 have nod:∀x∈xJ ph hs,x≠o.od:=λx hx q=>(H.out x hx).2 (q▸zfw o);have here:=ex _ _ (nod _ aj) H.here;have Mk:∀{x:aH} {G:List (Nat×AV)},U' x=ae (.idict G)->x≠ph:=λe q=>by rw[q,here] at e;cases e
 have new:∀{x:aH},U x=af->x∉a.all/\x∉o.all:=λe=>⟨λq=>S.some q e,λq=>O.some q e⟩
 refine⟨by rw[su.wA,aB];rfl,λh hh=>?_,λx hx=>?_⟩
 .rcases List.mem_append.mp hh with hh|hh
  .have e:=H.each h hh;have e1:=ex _ _ (nod _ (zkZ hh).1) e.1.1;have e2:=ex _ _ (nod _ (zkZ hh).2) e.1.2;exact⟨⟨zp e1 (Mk e1),zp e2 (Mk e2)⟩,e.2⟩
  .rw[List.mem_singleton.mp hh];exact⟨⟨zp CN (Mk CN),zp En (Mk En)⟩,hF⟩
 .rcases List.mem_cons.mp hx with h|h
  .exact h▸H.out ph aj
  .rw[gS] at h
   rcases List.mem_append.mp h with h|h
   .exact H.out x (al _ h)
   .rcases List.mem_cons.mp (show x∈[p,r] from h) with h|h
    .exact h▸new hp
    .exact List.mem_singleton.mp h▸new hr
theorem zqp(h1:U p=ae (.idict F))(h2:U r=ae (.idict F))(hF:yA F)(q:R ag U):tV (.ref p) (.ref r) R U:=by
 unfold tV;refine .inr (qt p r F F rfl rfl h1 h2 ⟨rfl,λf hf=>?_⟩ q);exact za ((hF.2 f hf).rd (U:=U)) λd r1 l1=>zK f.2 d d (zd9 hF.1 hf) r1 r1 (ap l1 (by decide)) (((hF.2 f hf).eqv (hF.2 f hf) d d r1 r1).mpr rfl)
theorem zoK(D)(ks):∀f∈jf D ks,∃xs,f.2 = .lst xs:=λf hf=>by exact za (List.mem_map.mp hf) λk _ e=>⟨_,by rw[<-e]⟩
theorem zl4(D)(k):∀x∈vx D k,sN 2 x:=by
 unfold vx;cases ch k 17<;>cases ch k 18<;>cases ch k 1<;>first|exact kL _|exact zfp _
theorem zl5(h:ks.Perm vd):yA (jf D ks):=
 ⟨by rw[zbS];exact h.nodup_iff.mpr (by decide),λf hf=>by refine za (List.mem_map.mp hf) λk _ e=>?_;rw[<-e];exact .lst (zl4 D k)⟩
theorem zsQ(hp:U p=ae (.idict fs))(hl:∀f∈fs,∃xs,f.2 = .lst xs)(nd:(fs.map (·.1)).Nodup)(q:∀b,U b=af->Q (.ref b) (U.set b (.list (fs.map λf=>.tup [.str f.1,f.2])))):yC (.ref p) Q U:=by unfold yC;exact jh p fs rfl hp hl nd q
theorem znT(hl:fs.length<=100)(nd:(fs.map (·.1)).Nodup)(q:∀D,U D=af->Q (.ref D) (U.set D (.idict fs))):yz (fs.map λf=>.tup [.str f.1,f.2]) Q U:=by unfold yz;exact qJ fs rfl hl nd q
noncomputable def vV(s:AV)(D:sJ)(o:OA)(a:LA)(ph:aH)(u5 u6 u7 u8:Option AV):Loc:=[ae s,ae (.int D.span),ae (.ref o.od),ae (.ref a.self),ae (.ref ph),u5,u6,u7,u8]
theorem zoA{L:fB}(G:Gd (X.push L) (hK P))(hd:n<440){a:LA}{k:Nat}(S:St U a o v D k)(hk:k<=23)(hv:ub v)(hT:v.tk=srt sM D.tick)(EL:v.seen.length<=10000){ph:aH}{hs:List Pr}(H:uw U a o ph hs)(hh:hs.length<=100){s:AV}{i:Nat}(hi:i<=1000){c:Int}{u7 u8:Option AV}{J:su->Prop}(hJ:∀U,J U){K:Loc->su->Prop}{S_:je}
  (hK:∀U' pt D' sn tk Cz u7,St U' { a with pt:=pt } o { v with seen:=sn,tk:=tk } D' (k+1)->D'.span=D.span->tk=srt sM D'.tick->sn.length<=v.seen.length+100->uw U' { a with pt:=pt } o ph Cz->Cz.length<=hs.length+1->K (vV s D o a ph (ae (.int i)) (ae (.int c)) u7 u8) U') :
  yq (X.push L) ⟨n+1,ai⟩ (vV s D o a ph (ae (.int i)) (ae (.int c)) u7 u8) (G0 J K S_) G1 U:=by
 have Dd:n+1<460:=aw (bH hd) (by decide);refine zql G Dd S hv (ap hk (by decide)) hT EL λσ1 pt D1 sn S1 H9 fr hl=>?_;have H1:=H.frame fr;have Jl:D1.es.length+D1.fs.length<=24:=ap S1.few (b6 hk);refine jr (kU (bW (by decide) (cR i)) (zwH hi)) ?_;refine zkK (a:={ a with pt:=pt }) G (aw Dd (by decide)) S1.L S1.I.ok λp ks E8 hp=>?_;have S2:=S1.sub (zF (o:=.idict (jf D1 ks)) hp);have D0:(σ1.set p (.idict (jf D1 ks))) p=ae (.idict (jf D1 ks)):=su.wA ..;have P9:∀x z,x≠o.od->σ1 x=ae z->(σ1.set p (.idict (jf D1 ks))) x=ae z:=λx z _ e=>qP e hp;generalize σ1.set p (.idict (jf D1 ks))=σ2 at S2 D0 P9 ⊢;have eL:vV s D o a ph (ae (.int i)) (ae (.int c)) u7 u8=vV s D1 o { a with pt:=pt } ph (ae (.int i)) (ae (.int c)) u7 u8:=by unfold vV;rw[H9]
 rw[eL];refine zhn G (aw Dd (by decide)) S2.O S1.I Jl E8 D0 (zJ D0 (ze (zbc E8 (by decide)) ?_));refine kg S2.O.d (show 9<100 by decide) ?_;have e5:jl (wo o { v with seen:=sn }) 5 (.lst (vx D1 17))=wo o { v with seen:=sn,tk:=srt sM D1.tick }:=rfl;rw[e5];have O3:=S2.O.put { v with seen:=sn,tk:=srt sM D1.tick };have L3:sU (σ2.set o.od (.idict (wo o { v with seen:=sn,tk:=srt sM D1.tick }))) { a with pt:=pt } D1:=S2.L.other (S2.dis _ (zfw o));have HB:(σ2.set o.od (.idict (wo o { v with seen:=sn,tk:=srt sM D1.tick }))) p=ae (.idict (jf D1 ks)):=zp D0 (bO (zeA S1.O.d hp));have MD:∀x z,x≠o.od->σ1 x=ae z->(σ2.set o.od (.idict (wo o { v with seen:=sn,tk:=srt sM D1.tick }))) x=ae z:=λx z h e=>zp (P9 x z h e) h;generalize σ2.set o.od (.idict (wo o { v with seen:=sn,tk:=srt sM D1.tick }))=σ3 at O3 L3 HB MD ⊢;have Ic:=H1.out ph aj;have HG:=MD ph _ (λq=>Ic.2 (by rw[q];exact zfw o)) H1.here;refine zo HG ?_;have gd:=zl5 (D:=D1) E8;refine zsQ HB (zoK D1 ks) gd.1 λb hb=>zo (su.wA ..) ?_;have E3:(jf D1 ks).length<=100:=by unfold jf;rw[am,E8.length_eq];decide
 refine znT E3 gd.1 λr hr=>?_;have GU:σ3 r=af:=Sub.none (zF hb) hr;have sb:Sub σ3 ((σ3.set b (.list ((jf D1 ks).map λf=>AV.tup [.str f.1,f.2]))).set r (.idict (jf D1 ks))):=Sub.put (zF hb) GU;have OR:((σ3.set b (.list ((jf D1 ks).map λf=>AV.tup [.str f.1,f.2]))).set r (.idict (jf D1 ks))) r=ae (.idict (jf D1 ks)):=su.wA ..;generalize (σ3.set b (.list ((jf D1 ks).map λf=>AV.tup [.str f.1,f.2]))).set r (.idict (jf D1 ks))=σ5 at sb OR ⊢;refine zo (sb _ _ HG) (zN (by rw[am];exact ap (b6 hh) (by decide)) ?_);have I8:σ1 r=af:=by
  cases e:σ1 r with
  | none=>rfl
  | some z=>
   by_cases h:r=o.od
   .rw[h,O3.d] at GU;exact nso GU
   .rw[MD r z h e] at GU;exact nso GU
 have H6:=H1.more S1.L S1.O (λx z h e=>sb _ _ (MD x z h e)) hp I8 (sb _ _ HB) OR gd;have S6:St (σ5.set ph (.list (hs.map AX++[.tup [.ref p,.ref r]]))) { a with pt:=pt } o { v with seen:=sn,tk:=srt sM D1.tick } D1 (k+1):=⟨(L3.sub sb).other Ic.1,(O3.sub sb).keep λx hx z e=>zp e (λq=>Ic.2 (q▸hx)),S1.dis,S1.I,S1.few,S1.clk⟩
 have hK:=hK _ pt D1 sn _ _ (ae (.ref p)) S6 H9 rfl hl H6 (by rw[aq,aG];exact ar _);unfold vV at hK;rw[<-H9] at hK;exact⟨hJ _,hK⟩
end
section
variable{P:Hm}{X:Cx}{n:Nat}{Q:zt}{Z:XP}{U:su}
theorem uw.sub(H:uw U a o ph hs)(s:Sub U U'):uw U' a o ph hs:=⟨s _ _ H.here,λh hh=>⟨⟨s _ _ (H.each h hh).1.1,s _ _ (H.each h hh).1.2⟩,(H.each h hh).2⟩,H.out⟩
theorem znX{V:Type}(f:V->AV)(xs:List V)(k):xC k (xs.map f)=(xs.zipIdx k).map λp=>AV.tup [.int (p.2:Nat),f p.1]:=by
 induction xs generalizing k with
 | nil=>rfl
 | cons x xs ih=>exact congrArg (List.cons _) (ih (k+1))
structure Bd(U:su)(r ob ok br:aH)(F:List (Nat×AV)):Prop where
 d:U r=ae (.idict F)
 b:U ob=ae (.list [])
 k:U ok=ae (.list [])
 x:U br=ae (.list [])
 nd:ob≠ok
 nr:ob≠br/\ok≠br
theorem Bd.put(B:Bd U r ob ok br F)(F'):Bd (U.set r (.idict F')) r ob ok br F':=by
 have nr:∀{q:aH},U q=ae (.list [])->q≠r:=λe h=>by rw[h,B.d] at e;cases e
 exact⟨su.wA ..,zp B.b (nr B.b),zp B.k (nr B.k),zp B.x (nr B.x),B.nd,B.nr⟩
theorem zeJ(B:Bd U r ob ok br F)(hl:F.length<100)(e:jl F n x=F')(q:∀U',Bd U' r ob ok br F'->R U'):wh r (.str n) x R U:=kg B.d hl (q _ (e▸B.put _))
theorem Bd.new(hr:U r=af)(Lz:(U.set r (.idict [])) ob=af)(GH:((U.set r (.idict [])).set ob (.list [])) ok=af)(DA:(((U.set r (.idict [])).set ob (.list [])).set ok (.list [])) br=af):Bd ((((U.set r (.idict [])).set ob (.list [])).set ok (.list [])).set br (.list [])) r ob ok br []:=by
 have r1:=qP (o':=.list []) (su.wA U r (.idict [])) Lz;have b1:((U.set r (.idict [])).set ob (.list [])) ob=ae (.list []):=su.wA ..;have r2:=qP (o':=.list []) r1 GH;have b2:=qP (o':=.list []) b1 GH;have k2:(((U.set r (.idict [])).set ob (.list [])).set ok (.list [])) ok=ae (.list []):=su.wA ..;exact⟨qP r2 DA,qP b2 DA,qP k2 DA,su.wA ..,zeA b1 GH,zeA b2 DA,zeA k2 DA⟩
theorem bit{x:Int}(h1:0<=x)(h2:x<2):x=0\/x=1:=zyz h1 h2
theorem zog(sp):sJ.grps ⟨[],[],sp,[],[]⟩=[]:=by
 have h2:ti [] []=[]:=cz (by rw[zbq];rfl);unfold sJ.grps grps;rw[h2];rfl
theorem zqM(h0:0<=sp)(h1:sp<=30):Inv ⟨[],[],sp,[],[]⟩:=by
 refine⟨⟨⟨(λ_ h=>nomatch h),(λ_ h=>nomatch h),aE _⟩,⟨(λ_ h=>nomatch h),(λ_ h=>nomatch h),aE _⟩,⟨aE _,aE _⟩,(λ_ h=>nomatch h),(λ_ h=>nomatch h),aE _,aE _⟩,h0,h1,λg h=>?_,.nil,(λ_ h=>nomatch h),(λ_ h=>nomatch h)⟩;rw[zog] at h;cases h
theorem zyJ(c:Int):∃d:Int,jM [AV.int 8,.int 40] (c.fmod 2)=ae (.int d)/\(d=8\/d=40):=by
 refine za (zcL (c:=c) (xs:=[AV.int 8,.int 40]) 2 rfl (by decide)) λw hw ew=>?_
 rcases List.mem_cons.mp hw with h|hw
 .exact zf 8 (h▸ew) (.inl rfl)
 .exact zf 40 (List.mem_singleton.mp hw▸ew) (.inr rfl)
theorem zpG{i:Int}(c:Int):(small (c.fmod (10 ^ du 8)).natAbs||small i.natAbs)=ag:=kU (bW (by decide) (bd c (show (0:Int)<10 ^ du 8 by decide))) (bW (ou (bu c (show (0:Int)<10 ^ du 8 by decide))) (by decide))
noncomputable def AK(ns:List Int)(dy:Int):OV:=⟨dy,1+((ns.getD 1 0).fdiv 2).fmod 2*((ns.getD 1 0).fdiv 4).fmod (10 ^ du 8),((ns.getD 0 0).fdiv 390).fmod 9883,1+(ns.getD 14 0).fmod 3,[],[]⟩
theorem zpe(ns:List Int)(N5:dy=8\/dy=40):ub (AK ns dy):=by
 unfold AK;have s1:=bd ((ns.getD 1 0).fdiv 2) (show (0:Int)<2 by decide);have s2:=bu ((ns.getD 1 0).fdiv 2) (show (0:Int)<2 by decide);have s3:=bd ((ns.getD 1 0).fdiv 4) (show (0:Int)<10 ^ du 8 by decide);have s4:=bu ((ns.getD 1 0).fdiv 4) (show (0:Int)<10 ^ du 8 by decide);have t2:=bu ((ns.getD 0 0).fdiv 390) (show (0:Int)<9883 by decide);have u1:=bd (ns.getD 14 0) (show (0:Int)<3 by decide);have u2:=bu (ns.getD 14 0) (show (0:Int)<3 by decide);generalize ((ns.getD 1 0).fdiv 2).fmod 2=a at s1 s2 ⊢;generalize ((ns.getD 1 0).fdiv 4).fmod (10 ^ du 8)=b at s3 s4 ⊢;refine⟨N5,?_,⟨bd _ (by decide),by lia⟩,⟨zFp u1,zFq u2⟩⟩
 rcases bit s1 s2 with rfl|rfl
 .show 1<=1+0*b/\1+0*b<=100000000;rw[sk];decide
 .show 1<=1+1*b/\1+1*b<=100000000;rw[Int.one_mul];exact⟨iq s3,Int.add_one_le_of_lt (a:=_) s4 |> (Int.add_comm 1 _▸·)⟩
theorem znt{V:Type}(l:List V):((l.map λ_=>ag).all λb=>b)=ag:=List.all_eq_true.mpr λb hb=>by exact za (List.mem_map.mp hb) λ_ _ e=>e.symm
theorem zqT(ns:List Int):∃M:List Int,cut (ns.map AV.int) (ae 2) (ae 13)=M.map .int/\M.length<=11:=by
 refine zf ((ns.drop (pW (ns.map AV.int).length 2)).take (pW (ns.map AV.int).length 13-pW (ns.map AV.int).length 2)) (by unfold cut;rw[List.map_take,List.map_drop];rfl) ?_;have Jx:=clipAt_min (n:=(ns.map AV.int).length) (y:=13) (by decide);have h2:=clipAt_min (n:=(ns.map AV.int).length) (y:=2) (by decide);rw[dt,eX];rw[am] at Jx h2 ⊢;split at Jx<;>split at h2<;>(first|exact zc 0x5c822a8415c00590e466 rfl h2|exact zc 0x17208aa10570050723300006c922cd026 rfl (by assumption) h2|exact zc 0xb90455082b802922cd026 rfl (by assumption)|exact zc 0x5c822a8415c0141c8cc0001b206466 rfl Jx h2)
theorem zg7{K:AV->List AV->Prop}(q:K .none []):vL xs [] K:=q
section
variable{L:fB}{a:LA}{o:OA}{v:OV}{D:sJ}{k:Nat}{u5 u6 u7 u8:Option AV}{S:je}{SZ:uN}{R:AS}{l:Loc}
def yt(a:LA)(l:Loc):Prop:=l.getD 3 af=ae (.ref a.self)
theorem zuS(G:Gd (X.push L) (hK P))(hd:n<560)(hL:sU U a D)(ho:t5 D)(h3:yt a l)(q:∀U',Sub U U'->R ⟨n,ai⟩ l S SZ U'):Gc (Gs (Gw vL (Gv (X.push L) 245 (ae 17) 211 (Ga 3) []) [])) R ⟨n,ai⟩ l S SZ U:=by
 exact ze h3 (zk hL.s hL.d (zcu G hd hL ho λr hr=>sD.same (zo (su.wA ..) (zo (su.wA ..) (zg7 (q _ (Sub.put (zF hr) hr)))))))
theorem zuT(G:Gd (X.push L) (hK P))(hd:n<560)(hL:sU U a D)(ho:t5 D)(h3:yt a l)(q:∀U',Sub U U'->R ⟨n,ai⟩ l S SZ U'):Gc (Gs (Gw zX (Gv (X.push L) 245 (ae 18) 218 (Ga 3) []) [Gn [Gn [Gb (.int 0)],Gn [Gb (.int 0)]]])) R ⟨n,ai⟩ l S SZ U:=by
 refine ze h3 (zk hL.s hL.d (zc5 G hd hL λr hr=>sD.same (zo (su.wA ..) (zo (su.wA ..) (zN ?_ (q _ (Sub.put (zF hr) hr)))))));rw[am];exact ap (b6 ho.cl) (by decide)
theorem zuU(G:Gd (X.push L) (hK P))(hd:n<560)(hL:sU U a D)(ho:t5 D)(h3:yt a l)(q:∀U',Sub U U'->R ⟨n,ai⟩ l S SZ U'):Gc (Gs (Gw zX (Gv (X.push L) 245 af 223 (Ga 3) [Gb (.str 0)]) [G3 (Gb (.int 1))])) R ⟨n,ai⟩ l S SZ U:=by
 refine ze h3 (zk hL.s hL.d (zcU (s:=ai) G hd hL ho λr hr=>sD.same (zo (su.wA ..) (zo (su.wA ..) (zN ?_ (q _ (Sub.put (zF hr) hr)))))));rw[am];refine ap (b6 (bL ..)) ?_;rw[be];exact ap (b6 ho.few.1) (by decide)
theorem zuV(G:Gd (X.push L) (hK P))(hd:n<560)(hL:sU U a D)(ho:t5 D)(h3:yt a l)(q:∀U',Sub U U'->R ⟨n,ai⟩ l S SZ U'):Gc (Gs (Gw vL (Gv (X.push L) 245 af 223 (Ga 3) [Gb (.str 1)]) [])) R ⟨n,ai⟩ l S SZ U:=by
 exact ze h3 (zk hL.s hL.d (zcU (s:=ag) G hd hL ho λr hr=>sD.same (zo (su.wA ..) (zo (su.wA ..) (zg7 (q _ (Sub.put (zF hr) hr)))))))
def C0(X:Cx):AS:=(Gc (Gh 8 (Gm X 306 [Ga 3,Gm X 256 [Ga 0,Gb (.int 0)]])) (Gc (Gk (kr [Gm X 311 [Ga 8,Ga 2,Ga 1],Gj Ab ai [Gu ai (Gp (Ga 4)) (.many [10,11]) 3 af (Gi (Ga 10) [(.Eq,(Ga 11))])]])) Ge))
theorem zvg(G:Gd (X.push L) (hK P))(hd:n<450)(KA:St U a o v D k)(hk:k<=24)(H:uw U a o ph hs)(hh:hs.length<=100){ns:List Int}(q:∀l U',S (.ret (.bool ag)) l U') :
  C0 (X.push L) ⟨n,ai⟩ (vV (.lst (ns.map .int)) D o a ph u5 u6 u7 u8) S SZ U:=by
 refine jp G (aw hd (by decide)) (k:=0) (zkK G (aw hd (by decide)) KA.L KA.I.ok λp ks E8 hp=>?_);have O5:=KA.O.sub (zF (o:=.idict (jf D ks)) hp);have H5:=H.sub (zF (o:=.idict (jf D ks)) hp);refine zhn G (aw hd (by decide)) O5 KA.I (ap KA.few hk) E8 (su.wA ..) (ze (a:=ag) rfl (ze (zB H5.here) (z8 (λ_=>.bool ag) (λ_=>rfl) (λ_ _=>rfl) (λh RM R q=>?_) H5.here (ap hh (by decide)) ?_)))
 .have e:=H5.each h RM;exact zqp e.1.1 e.1.2 e.2 q
 .show yF _ _ _;unfold yF;refine zf (hs.map λ_=>ag) (by rw[aL];rfl) ?_;rw[znt hs];exact q _ _
def Bv(X:Cx):AS:=(Gc (Gs (Gw vL (Gv X 245 (ae 17) 211 (Ga 3) []) [])) (Gc (Gs (Gw zX (Gv X 245 (ae 18) 218 (Ga 3) []) [Gn [Gn [Gb (.int 0)],Gn [Gb (.int 0)]]])) (Gc (Gs (Gw zX (Gv X 245 af 223 (Ga 3) [Gb (.str 0)]) [G3 (Gb (.int 1))])) (Gc (Gs (Gw vL (Gv X 245 af 223 (Ga 3) [Gb (.str 1)]) [])) (C0 X)))))
theorem zqU(G:Gd (X.push L) (hK P))(hd:n<430)(S0:St U a o v D k)(hk:k<=24)(H:uw U a o ph hs)(hh:hs.length<=100){ns:List Int}(q:∀l U',S (.ret (.bool ag)) l U') :
  Bv (X.push L) ⟨n+1,ai⟩ (vV (.lst (ns.map .int)) D o a ph u5 u6 u7 u8) S SZ U:=by
 have Dd:n+1<431:=bH hd;have Ei:n+1<560:=aw Dd (by decide);have ho:=S0.I.ok;exact zuS G Ei S0.L ho rfl λσ1 s1=>zuT G Ei (S0.L.sub s1) ho rfl λσ2 s2=>zuU G Ei ((S0.L.sub s1).sub s2) ho rfl λσ3 s3=>zuV G Ei (((S0.L.sub s1).sub s2).sub s3) ho rfl λσ4 s4=>
  zvg G (aw Dd (by decide)) ((((S0.sub s1).sub s2).sub s3).sub s4) hk ((((H.sub s1).sub s2).sub s3).sub s4) hh q
end
def Cf(X:Cx)(R:AS):AS:=(Gc (Gh 2 (G8 [((Gb (.str 0)),(Gr ag [])),((Gb (.str 1)),(Gr ag [])),((Gb (.str 18)),(Gr ag [])),((Gb (.str 20)),(Gg (Gr ai [Gb (.int 8),Gb (.int 40)]) (Gf ai .Mod (Gm X 256 [Ga 0,Gb (.int 1)]) (Gb (.int 2))))),((Gb (.str 21)),(Gb (.int 1)))])) (Gc (Gz (Gf ai .Add (Gb (.int 1)) (Gf ai .Mult (Gf ai .Mod (Gf ai .FloorDiv (Gm X 256 [Ga 0,Gb (.int 1)]) (Gb (.int 2))) (Gb (.int 2))) (Gf ai .Mod (Gf ai .FloorDiv (Gm X 256 [Ga 0,Gb (.int 1)]) (Gb (.int 4))) (Gf ai .Pow (Gb (.int 10)) (Gb (.int 8)))))) (Ga 2) (Gb (.str 21))) (Gc (Gz (Gf ai .Mod (Gf ai .FloorDiv (Gm X 256 [Ga 0,Gb (.int 0)]) (Gb (.int 390))) (Gb (.int 9883))) (Ga 2) (Gb (.str 22))) (Gc (Gz (Gr ai []) (Ga 2) (Gb (.str 23))) (Gc (Gz (Gr ai []) (Ga 2) (Gb (.str 5))) (Gc (Gz (Gf ai .Add (Gb (.int 1)) (Gf ai .Mod (Gm X 256 [Ga 0,Gb (.int 14)]) (Gb (.int 3)))) (Ga 2) (Gb (.str 24))) R))))))
theorem zlV(G:Gd (X.push L) (hK P))(hd:n<440){ns:List Int}
  (q:∀U' o v,tf U' o v ⟨[],[],sp,[],[]⟩->ub v->v.seen=[]->v.tk=[]->R ⟨n+1,ai⟩ [ae (.lst (ns.map .int)),ae (.int sp),ae (.ref o.od),x3,x4,x5,x6,x7,x8] S SZ U') :
  Cf (X.push L) R ⟨n+1,ai⟩ [ae (.lst (ns.map .int)),ae (.int sp),x2,x3,x4,x5,x6,x7,x8] S SZ U:=by
 intro r hr ob Lz ok GH br DA;have B:=Bd.new hr Lz GH DA;generalize ((((U.set r (.idict [])).set ob (.list [])).set ok (.list [])).set br (.list []))=σ3 at B ⊢;refine jp G (zkg hd) (k:=1) (za (zyJ (ns.getD 1 0)) λdy ew N5=>ze ew ⟨B.d,ze (a:=[(0,.ref ob),(1,.ref ok),(18,.ref br),(20,.int dy),(21,.int 1)]) rfl ?_⟩);have B:=B.put [(0,.ref ob),(1,.ref ok),(18,.ref br),(20,.int dy),(21,.int 1)];generalize σ3.set r _=σ4 at B ⊢;exact jp G (zkg hd) (k:=1) (jp G (zkg hd) (k:=1) (jr (zpG _) (zeJ B (show 5<100 by decide) rfl λσ5 B=>jp G (zkg hd) (k:=0) (zeJ B (show 5<100 by decide) rfl λσ6 B=>zeJ B (show 6<100 by decide) rfl λσ6 B=>zeJ B (show 7<100 by decide) rfl λσ6 B=>jp G (zkg hd) (k:=14) (zeJ B (show 8<100 by decide) rfl λσ7 B=>q σ7 ⟨r,ob,ok,br⟩ (AK ns dy) ⟨B.d,B.b,B.k,B.x,B.nd,B.nr⟩ (zpe ns N5) rfl rfl)))))
structure LwI(a:LA)(o:OA)(v:OV)(ph:aH)(sp:Int)(b:Nat)(U':su)(pt:aH)(D:sJ)(sn tk:List Mt)(hs:List Pr):Prop where
 S:St U' { a with pt:=pt } o { v with seen:=sn,tk:=tk } D (13+b)
 sp:D.span=sp
 ht:tk=srt sM D.tick
 sn:sn.length<=100*b
 H:uw U' { a with pt:=pt } o ph hs
 hl:hs.length<=b
def Ar(a:LA)(o:OA)(v:OV)(ph:aH)(sp:Int)(xs:List (Int×Nat))(b:Nat)(U':su):Prop:=(∃pt D sn tk hs,LwI a o v ph sp b U' pt D sn tk hs)/\b+xs.length<=11/\∀p∈xs,p.2<=1000
noncomputable def An(s:AV)(sp:Int)(o:OA)(a:LA)(ph:aH)(c:Option AV×Option AV×Option AV):Loc:=[ae s,ae (.int sp),ae (.ref o.od),ae (.ref a.self),ae (.ref ph),c.1,c.2.1,c.2.2,af]
theorem zq6(G:Gd (X.push L) (hK P))(hd:n<440)(hv:ub v){J:su->Prop}(hJ:∀U,J U){K:Loc->su->Prop}(h:Ar a o v ph sp (c::xs) b U')(hK:∀z U',Ar a o v ph sp xs (b+1) U'->K (An s sp o a ph z) U') :
  yq (X.push L) ⟨n+1,ai⟩ (An s sp o a ph (ae (.int (c.2:Nat)),ae (.int c.1),u7)) (G0 J K S_) G1 U':=by
 refine jg h λEf hb hx=>?_;obtain⟨pt,D,sn,tk,hs,W⟩:=Ef;rw[au] at hb;have Dv:b<=10:=zwO hb;obtain rfl:=W.sp;exact zoA (a:={ a with pt:=pt }) (v:={ v with seen:=sn,tk:=tk }) G hd W.S (zwF Dv) ⟨hv.days,hv.scale,hv.base,hv.step⟩ W.ht (ap W.sn (zwE Dv)) W.H (ap W.hl (zwG Dv)) (hx c aj) hJ λσ2 pt2 D2 Qx OI NA u7 S2 e2 t2 n2 H2 l2=>hK (_,_,_) _ ⟨⟨pt2,D2,Qx,OI,NA,S2,e2,t2,ap n2 (by rw[Nat.mul_add];exact eU W.sn 100),H2,ap l2 (b6 W.hl)⟩,zwN hb,λp hp=>hx p (al _ hp)⟩
def C5(X:Cx):AS:=(Gc (Gh 3 (A.new X 245 178 [Ga 1])) (Gc (Gs (Gm X 318 [Ga 3,Ga 2,Gm X 256 [Ga 0,Gb (.int 13)]])) (Gc (Gh 4 (Gr ag [])) (Gc (Gy (A.itE (G7 ai (Ga 0) (ae (Gb (.int 2))) (ae (Gb (.int 13))))) (.many [5,6]) (yq X)) (Bv X)))))
theorem zqV(G:Gd (X.push L) (hK P))(hd:n<430){ns:List Int}(h0:0<=sp)(h1:sp<=30)(hO:tf U o v ⟨[],[],sp,[],[]⟩)(hv:ub v)(NP:v.seen=[])(Ri:v.tk=[])(q:∀l U',S (.ret (.bool ag)) l U') :
  C5 (X.push L) ⟨n+1,ai⟩ [ae (.lst (ns.map .int)),ae (.int sp),ae (.ref o.od),af,af,af,af,af,af] S SZ U:=by
 have Ei:n<440:=aw hd (by decide);refine⟨(show n+1<590 by exact zkg Ei),ztA G (zFw Ei) (show Aw sp=ag by unfold Aw;rw[H3 h0,H3 h1];rfl) λσ8 a s8 fr hL=>?_⟩;have dis:∀x∈o.all,x∉a.all:=λx hx hx'=>hO.some hx (fr x hx');have S0:St σ8 a o v ⟨[],[],sp,[],[]⟩ 0:=⟨hL,hO.keep (λx _ z e=>s8 x z e),dis,zqM h0 h1,ar _,ar _⟩
 refine jp G (zkg Ei) (k:=13) (zqZ G (aw (bH hd) (by decide)) S0 ⟨rfl,rfl⟩ λσ9 pt D1 S1 Oj MT=>?_);intro ph Ic;have S2:=S1.sub (zF (o:=.list []) Ic);have H2:uw (σ9.set ph (.list [])) { a with pt:=pt } o ph []:=⟨su.wA ..,(λ_ h=>nomatch h),λx hx=>by
  rw[List.mem_singleton.mp hx];exact⟨λq=>S1.L.some q Ic,λq=>S1.O.some q Ic⟩⟩
 refine za (zqT ns) λM hM PF=>?_
 conv=>whnf
 rw[hM,znX];have PW:v.tk=srt sM D1.tick:=by rw[Ri,MT];exact(zR sM []).eq_nil.symm
 refine qB (λ_=>An (.lst (ns.map .int)) sp o a ph) (λxs b _=>Ar a o v ph sp xs b) (λb _=>b+1) (λc xs b z U' K S_ h hK=>zf _ rfl (zq6 G Ei hv (λ_=>trivial) h hK)) (b:=0) (c:=(_,_,_)) (λz U' h=>?_) ⟨⟨pt,D1,v.seen,v.tk,[],S2,Oj,PW,by rw[NP];exact aE _,H2,ar _⟩,by rw[ci,List.length_zipIdx];exact PF,λp hp=>zwW PF (List.mem_zipIdx hp)⟩;refine jg h λEf hb _=>?_;obtain⟨pt,D,sn,tk,hs,W⟩:=Ef;have hb:=ap (bN _ _) hb;generalize (M.zipIdx 0).foldl (λb _=>b+1) 0=b at W hb;obtain rfl:=W.sp;exact zqU (a:={ a with pt:=pt }) G hd W.S (zwI hb) W.H (zwV W.hl hb) q
theorem zhD(G:Gd (X.push L) (hK P))(hd:n<430){ns:List Int}(h0:0<=sp)(h1:sp<=30)(q:∀l U',S (.ret (.bool ag)) l U') :
  Cf (X.push L) (C5 (X.push L)) ⟨n+1,ai⟩ [ae (.lst (ns.map .int)),ae (.int sp),af,af,af,af,af,af,af] S SZ U:=
 zlV G (aw hd (by decide)) λU' o v hO hv hs ht=>zqV G hd h0 h1 hO hv hs ht q
theorem law_ok(G:Gd X (hK P))(hd:n<400){ns:List Int}(q:∀U',Q (.bool ag) U'):sy X 323 ⟨n,ai⟩ [.lst (ns.map .int)] Q Z U:=by
 refine zve G (zzT hd) λL=>?_;have G':=G.push L;refine jp G' (zt3 hd) (k:=0) (jp G' (zt3 hd) (k:=0) ?_);generalize ns.getD 0 0=c0;have a1:=bd c0 (show (0:Int)<5 by decide);refine zaS (λh=>?_) λh=>?_
 .refine jp G' (zt3 hd) (k:=0) ?_;have b1:=bd ((ns.getD 0 0).fdiv 15) (show (0:Int)<26 by decide);have b2:=bu ((ns.getD 0 0).fdiv 15) (show (0:Int)<26 by decide);exact zhD G' (aw hd (by decide)) (zFo b1) (Int.add_le_add_left (Int.le_sub_one_of_lt b2) 5) λ_ _=>sD.same (q _)
 .have a2:=bu c0 (show (0:Int)<5 by decide);exact zhD G' (aw hd (by decide)) a1 (bW (ou a2) (by decide)) λ_ _=>sD.same (q _)
end
end Mine.Internal
open PySem PySem.W PyProof.Rows
theorem PySem.Challenge.cw_uf060002_08_holds : PySem.Challenge.rw_uf060002_08.Holds := by
 refine Mine.Internal.hd ?_;intro w s₀ s₁ mg mb G Yb fa o pm cd doc dV kV ho hd hcd hD hmg hg args vals as hpre hlay hrd hwl hlo;have KX:=kIn_of Yb;refine Ground.open G ?_;intro T B D TE TW;have hfa:=mg_of KX T.g (n:="law") (v:=.ref 323) (by kernel_rfl);rw[Mine.Internal.dL_name,hfa] at hmg;cases hmg
 wrow_args hpre hlay hrd hwl hlo
 refine enter_call (codeAny_mono ?_ (λ_ _ g=>GoodW.toG g));refine Mine.Internal.head_of (K:=Mine.Internal.hK w.params) ⟨⟨T.g,T.b,T.nolimit⟩,KX,T.builtins⟩ (by assumption) (by assumption) (by omega) hg (λ_=>rfl) ?post ?_
 case post=>exact postW_of rfl (w_eq_bool rfl rfl) rfl
 intro Q Z U q;exact Mine.Internal.law_ok ⟨⟨T.g,T.b,T.nolimit⟩,KX,T.builtins⟩ (by omega) q
