import PyProof.Rows.All
import Wide.All
import OpenK.AllK
import Wide.FinOn
import PySem.Challenge.RW_uf060002_11
set_option Elab.async false
set_option genSizeOf false
set_option genInjectivity false
set_option bootstrap.genMatcherCode false
set_option linter.all false
set_option maxRecDepth 100000
set_option maxHeartbeats 8000000
namespace Mine.Internal
def fA:=@List.mem_cons_of_mem
def fB:=@List.mem_cons_self
def fC:=@List.length_map
def fE:=@Nat.le_trans
def fF:=@List.length_append
def fG:=@List.mem_map
def fH:=@List.length_cons
def fJ:=@List.getElem?_eq_getElem
def fM:=@List.mem_cons
def fN:=@Option.some_ne_none
def fO:=@Nat.le_refl
def fP:=@List.mem_singleton
def fQ:=@List.getD_eq_getElem?_getD
def fR:=@List.forall_mem_cons
def fS:=@List.mem_append
def fT:=@List.nodup_cons
def fU:=@List.mem_filter
def fV:=@Nat.zero_le
def fW:=@List.map_append
def fX:=@List.getElem?_eq_some_iff
def fY:=@List.length_singleton
def fZ:=@List.size_toArray
def gA:=@List.map_map
def gB:=@Array.length_toList
def gC:=@Bool.false_eq_true
def gD:=@Nat.lt_trans
def gE:=@Array.toList_push
def gF:=@List.pairwise_append
def gG:=@List.map_congr_left
def gH:=@List.append_assoc
def gI:=@List.getElem?_append_right
def gJ:=@List.pairwise_cons
def gK:=@Array.getElem?_toList
def gL:=@List.mem_append_right
def gM:=@List.map_cons
def gN:=@List.mem_map_of_mem
def gO:=@Bool.and_eq_true_iff
def gP:=@Nat.lt_of_lt_of_le
def gQ:=@List.not_mem_nil
def gR:=@Array.toList_append
def gS:=@Nat.ne_of_lt
def gT:=@List.nodup_append
def gU:=@List.append_nil
def gV:=@List.mem_range
def gW:=@Nat.succ_le_succ
def gX:=@Bool.and_eq_true
def gY:=@List.length_range
def gZ:=@List.length_eq_zero_iff
def pA:=@Int.natCast_nonneg
def pB:=@List.drop_eq_getElem_cons
def pC:=@List.getElem?_append_left
def pD:=@Nat.lt_succ_of_le
def pE:=@Nat.not_lt
def pF:=@Nat.le_of_eq
def pG:=@List.mem_flatten
def pH:=@List.mem_append_left
def pI:=@Nat.mul_le_mul_right
def pJ:=@Int.fmod_nonneg_of_pos
def pK:=@Bool.false_ne_true
def pL:=@List.filter_sublist
def pM:=@List.foldl_cons
def pN:=@List.lookup_cons
def pO:=@Array.getElem?_eq_some_iff
def pP:=@List.pairwise_iff_getElem
def pQ:=@List.length_nil
def pR:=@Nat.le_add_right
def pS:=@Int.eq_ofNat_of_zero_le
def pT:=@List.mem_of_getElem?
def pU:=@List.mem_filterMap
def pV:=@Array.toList_extract
def pW:=@Int.fmod_lt_of_pos
def pX:=@List.find?_cons
def pY:=@Option.map_eq_some_iff
def pZ:=@List.mem_flatMap
def fAA:=@List.all_eq_true
def fAB:=@Nat.le_of_lt
def fAC:=@List.extract_eq_take_drop
def fAD:=@List.pairwise_map
def fAE:=@Nat.le_of_ble_eq_true
def fAF:=@List.getElem?_eq_none
def fAG:=@List.length_filter_le
def fAH:=@Nat.le_antisymm
def fAI:=@Int.ofNat_lt
def fAJ:=@Option.bind_eq_some_iff
def fAK:=@List.getElem_mem
def fAL:=@List.take_of_length_le
def fAM:=@Array.perm_iff_toList_perm
def fAN:=@List.take_add_one
def fAO:=@Nat.zero_add
def fAP:=@List.flatMap_cons
def fAQ:=@Int.toNat_of_nonneg
def fAR:=@List.mem_iff_getElem?
def fAS:=@List.getElem?_toArray
def fAT:=@List.length_take
def fAU:=@Nat.add_assoc
def fAV:=@Array.toList_reverse
def fAW:=@List.eq_nil_of_length_eq_zero
def fAX:=@List.getElem?_cons_succ
def fAY:=@List.pairwise_singleton
def fAZ:=@List.dropLast_concat_getLast
def fA0:=@Nat.add_le_add_left
def fA1:=@List.filterMap_cons
def fA2:=@List.length_pos_of_mem
def fA3:=@Nat.succ_lt_succ
def fA4:=@Int.le_add_of_nonneg_right
def fA5:=@List.take_append_drop
def fA6:=@List.nil_append
def fA7:=@Nat.le_succ
def fA8:=@List.getElem?_map
def fA9:=@Int.toNat_natCast
def fBA:=@Int.le_refl
def fBB:=@List.filter_congr
def fBC:=@Option.isSome_iff_exists
def fBD:=@Bool.toNat_le
def fBE:=@Nat.add_lt_add_left
def fBF:=@List.length_drop
def fBG:=@List.filter_cons
def fBH:=@Int.ofNat_le
def fBI:=@Nat.ne_of_gt
def fBJ:=@Nat.le_of_succ_le_succ
def fBK:=@Int.lt_of_le_of_lt
def fBL:=@Nat.add_zero
def fBM:=@Nat.not_lt_zero
def fBN:=@Nat.lt_irrefl
def fBO:=@List.length_replicate
def fBP:=@List.perm_append_comm
def fBQ:=@Bool.not_eq_true'
def fBR:=@List.ext_getElem?
def fBS:=@Nat.le_of_lt_succ
def fBT:=@Array.getD_eq_getD_getElem?
def fBU:=@Nat.le_succ_of_le
def fBV:=@List.sublist_flatten_of_mem
def fBW:=@List.mem_of_mem_take
def fBX:=@Array.toArray_toList
def fBY:=@List.nodup_iff_pairwise_ne
def fBZ:=@List.drop_length
def fB0:=@List.take_length
def fB1:=@Nat.succ_mul
def fB2:=@List.zipIdx_cons
def fB3:=@List.getElem?_eq_none_iff
def fB4:=@List.exists_mem_of_ne_nil
def fB5:=@List.getElem_of_mem
def fB6:=@Bool.not_true
def fB7:=@Bool.true_and
def fB8:=@List.length_erase_of_mem
def fB9:=@List.of_mem_zip
def fCA:=@Array.forIn_toList
def fCB:=@Nat.lt_of_le_of_ne
def fCC:=@List.append_ne_nil_of_right_ne_nil
def fCD:=@List.filter_append
def fCE:=@Nat.add_sub_cancel_left
def fCF:=@List.map_id
def fCG:=@List.findIdx?_eq_some_iff_getElem
def fCH:=@Nat.succ_pos
def fCI:=@Nat.lt_succ_of_lt
def fCJ:=@Nat.ble_eq_true_of_le
def fCK:=@List.filterMap_append
def fCL:=@List.eq_nil_or_concat
def fCM:=@List.concat_eq_append
def fCN:=@Int.min_eq_right
def fCO:=@Int.not_le
def fCP:=@Nat.lt_succ_self
def fCQ:=@List.mem_reverse
def fCR:=@Int.mul_le_mul_of_nonneg_right
def fCS:=@Nat.succ_lt_succ_iff
def fCT:=@List.mem_of_mem_drop
def fCU:=@List.mem_erase_of_ne
def fCV:=@Int.min_eq_left
def fCW:=@List.range_succ
def fCX:=@List.reverse_append
def fCY:=@Int.le_trans
def fCZ:=@Int.le_total
def fC0:=@Nat.sub_self
def fC1:=@Int.lt_trans
def fC2:=@Int.le_of_lt
def fC3:=@List.zip_cons_cons
def fC4:=@List.getElem?_drop
def fC5:=@Nat.lt_of_le_of_lt
def fC6:=@Array.getElem?_eq_none_iff
def fC7:=@List.perm_ext_iff_of_nodup
def fC8:=@List.filter_filter
def fC9:=@List.findIdx?_eq_none_iff
def fDA:=@List.mem_of_find?_eq_some
def fDB:=@List.reverse_cons
def fDC:=@Nat.le_zero
def fDD:=@Nat.lt_trichotomy
def fDE:=@List.foldl_append
def fDF:=@List.flatten_cons
def fDG:=@Bool.and_true
def fDH:=@Array.size_setIfInBounds
def fDI:=@List.sum_cons
def fDJ:=@Int.max_eq_right
def fDK:=@List.perm_middle
def fDL:=@Array.toList_map
def fDM:=@List.nodup_range
def fDN:=@Int.add_zero
def fDO:=@Nat.le_total
def fDP:=@Nat.mul_comm
def fDQ:=@Int.max_eq_left
def fDR:=@Bool.or_eq_true
def fDS:=@List.find?_some
def fDT:=@Option.map_none
def fDU:=@Nat.add_le_add
def fDV:=@Bool.and_false
def fDW:=@Array.size_map
def fDX:=@Bool.not_false
def fDY:=@Nat.not_le
def fDZ:=@Nat.blt_eq
def fD0:=@Int.not_lt
open PySem renaming wpAny_bind -> G7, wpAny_pure -> G8, wpAny_mono -> G9, wpAny_holding -> Ha, sizeLine_eq -> Hb, wpAny_rule -> Hc, wpAny_forIn_list -> Hd, wpAny_call_entry -> He, wpAny_newList -> Hf, codeAny_mono -> Hg, wpAny_standAt -> Hh, Program -> Hi, codeAny -> Hj, Params -> Hk, mainGlobals -> Hl
open PyProof.Rows renaming wpS_bind -> Hm, wpS_pure -> Hn, wpS_mono -> Ho, pendingOf -> Hp, wpS_forRange -> Hq, listUpdate_at -> Hr, listItems_at -> Hs, arrOf -> Ht, Keyed -> Hu, seqObj -> Hv, get?_update_seq -> Hw
def Hx:=@Option.some.inj
def Hy:=@decide_eq_false
def Hz:=@decide_eq_true
def H0:=@of_decide_eq_true
def H1:=@eq_of_beq
open PySem PyProof.Rows PySem.SeqAt PySem.W
def zbc{M:Model}{Γ:Ctx}{p:Pos}{t:Sem Fin}{fs:List Frame}{s s':Shared}{e:End}(h:Runs M Γ p t fs s e s'):s.heap.objs.size<=s'.heap.objs.size:=by
 induction h<;>(try simp only[Shared.setGen,Heap.size_after_update,Heap.size_push] at *)<;>omega
def zj4{M:Model}{Γ:Ctx}{p:Pos}{g:Nat}{r:Resume}{s s':Shared}{res:GenResult}(h:Wakes M Γ p g r s res s'):s.heap.objs.size<=s'.heap.objs.size:=by
 unfold Wakes at h;split at h
 .exact h.elim
 .split at h
  .obtain⟨e₁,s₁,hr,_,_,rfl⟩:=h;exact(zbc hr:(s.setGen g .running).heap.objs.size<=s₁.heap.objs.size)
  .rw[h.2];exact fO _
  .rw[h.2];exact fO _
 .obtain⟨e₁,s₁,hr,_,_,rfl⟩:=h;exact(zbc hr:(s.setGen g .running).heap.objs.size<=s₁.heap.objs.size)
 .rw[h.2];exact fO _
 .rw[h.2];exact fO _
def zqS{J:Type}(M:Model)(Γ:Ctx)(n:Nat)(t:Sem J):∀(Q:J->Pos->Shared->Prop) (E:Value->Pos->Shared->Prop) (p:Pos) (s:Shared),n<=s.heap.objs.size->Sem.wp M Γ t Q E p s->
  Sem.wp M Γ t (λa p' s'=>n<=s'.heap.objs.size/\Q a p' s') (λe p' s'=>n<=s'.heap.objs.size/\E e p' s') p s:=by
 induction t with
 | pure a=>intro Q E p s hn h;exact⟨hn,h⟩
 | raise e=>intro Q E p s hn h;exact⟨hn,h⟩
 | unsupported _=>intro Q E p s _ h;exact h
 | finish _=>intro Q E p s _ h;exact h
 | rule _ k ih=>intro Q E p s hn h;exact ih () Q E p s hn h
 | «at» p' k ih=>intro Q E p s hn h;exact ih () Q E p' s hn h
 | load a _ k ih=>intro Q E p s hn h;obtain⟨o,ho,h⟩:=h;exact⟨o,ho,ih o Q E p s hn h⟩
 | update a _ f k ih=>intro Q E p s hn h;exact⟨h.1,ih () Q E p _ (by simpa using hn) h.2⟩
 | loadIfAlive a k ih=>intro Q E p s hn h;exact ih _ Q E p s hn h
 | point _ k ih=>intro Q E p s hn h;exact ih () Q E p s hn h
 | register _ _=>intro Q E p s _ h;exact h
 | alloc o k ih=>intro Q E p s hn h;exact ih _ Q E p _ (by simp;omega) h
 | fresh k ih=>intro Q E p s hn h;exact ih _ Q E p { s with toks:=s.toks+1 } hn h
 | ask k ih=>intro Q E p s hn h;exact ih _ Q E p s hn h
 | choose src m k ih=>intro Q E p s hn h;exact⟨h.1,ih _ Q E p { s with drawn:=s.drawn.bump src } hn h.2⟩
 | os q _ k ih=>intro Q E p s hn h;exact ih _ Q E p { s with os:=(Os.step s.os q).1 } hn h
 | call c hd _ _ k ih=>intro Q E p s hn h;obtain⟨r,s',hr,h⟩:=h;exact⟨r,s',hr,ih r Q E p s' (fE hn (zbc hr)) h⟩
 | handled own k ih=>intro Q E p s hn h;exact ih _ Q E p s hn h
 | genState g k ih=>intro Q E p s hn h;obtain⟨st,hs,h⟩:=h;exact⟨st,hs,ih _ Q E p s hn h⟩
 | newGen c k ih=>intro Q E p s hn h;exact ih _ Q E p { s with gens:=s.gens.push (.fresh c) } hn h
 | resume g r _ k ih=>intro Q E p s hn h;obtain⟨res,s',hw,h⟩:=h;exact⟨res,s',hw,ih res Q E p s' (fE hn (zj4 hw)) h⟩
 | yield _ _ _ _=>intro Q E p s _ h;exact h
 | stack k ih=>intro Q E p s hn h;exact ih _ Q E p s hn h
 | fork _ _=>intro Q E p s _ h;exact h
 | thread k ih=>intro Q E p s hn h;exact ih _ Q E p s hn h
 | await _ _ _ _ _=>intro Q E p s _ h;exact h
def zD{J:Type}{M:Model}{A:Around}{s:Shared}{t:Sem J}{Q:J->Shared->Prop}{E:Value->Shared->Prop}
  (h:wpAny M A t (λa s'=>s.heap.objs.size<=s'.heap.objs.size->Q a s') (λe s'=>s.heap.objs.size<=s'.heap.objs.size->E e s') s):wpAny M A t Q E s:=
 λΓ p hΓ=>by
  have:=zqS M Γ s.heap.objs.size t _ _ p s (fO _) (h Γ p hΓ);exact Sem.wp_mono M Γ t (λa _ s' x=>x.2 x.1) (λe _ s' x=>x.2 x.1) p s this
def zlh{M:Model}{A:Around}{s:Shared}{c:Code}{R:Result->Shared->Prop}(h:Hj M A c (λr s'=>s.heap.objs.size<=s'.heap.objs.size->R r s') s):Hj M A c R s:=
 λΓ p hc hΓ=>by obtain⟨r,s',hr,hR⟩:=h Γ p hc hΓ;exact⟨r,s',hr,hR (zbc hr)⟩
section
set_option maxRecDepth 1000000
open PySem.Calls
noncomputable def ztu(P:Hk):BT:=((((((((((BT.nil.ins 0 (boot_o_0 P)).ins 1 (boot_o_1 P)).ins 2 (boot_o_2 P)).ins 3 (boot_o_3 P)).ins 4 (boot_o_4 P)).ins 5 (boot_o_5 P)).ins 6 (boot_o_6 P)).ins 7 (boot_o_7 P)).ins 8 (boot_o_8 P)).ins 9 (boot_o_9 P)).ins 10 (boot_o_10 P)
noncomputable def zmV(w:World)(os:OsState):SharedT:=⟨ztu w.params,11,(boot_heap w.params).life,Array.mk [],boot_drawn,boot_toks,os⟩
def zmW(w:World)(os:OsState):(zmV w os).abs=⟨boot_heap w.params,Array.mk [],boot_drawn,boot_toks,os⟩:=by kernel_rfl
def zk5(P:Hk):(boot_heap P).isNs Hl=true:=by kernel_rfl
def zk4(P:Hk):(boot_heap P).objs.size=11:=by kernel_rfl
def zmX(P:Hk):(boot_heap P).nsMap Hl "__annotations__" = some (.ref 6):=by kernel_rfl
def zoE{tb:String->Option Builtin}{p:Hi}{w:World}{n₀:Nat}{ann:Option Value}:∀{n:Nat} {s s':Shared} {t:Thread} {f:Flow} {c:Code} {q:Pos},segRun tb p w n₀ ann 0 n s t=some (f,s',c,q)->topRun tb p w n₀ ann n s t=some s':=by
 intro n
 induction n with
 | zero=>intro s s' t f c q h;cases h
 | succ n ih=>
  intro s s' t f c q h;unfold segRun at h;unfold topRun;have ht:through t=(endAt 0 t).isSome:=by
   obtain⟨cur,code,pos,stack⟩:=t;cases stack with
   | nil=>
    cases cur with
    | pure x=>cases x<;>rfl
    | _=>rfl
   | cons a l=>rfl
  rw[ht];cases he:endAt 0 t with
  | some x=>rw[he] at h;cases h;rfl
  | none=>
   rw[he] at h;dsimp only[Option.isSome_none];cases hk:stepOk n₀ ann t with
   | false=>rw[hk] at h;cases h
   | true=>
    rw[hk] at h;cases hs:step (denote tb) p w s t with
    | halt o s₂=>rw[hs] at h;cases h
    | go s₂ t₂=>rw[hs] at h;exact ih h
noncomputable def zgG{J:Type}(p q:Hi)(loose:List Str)(Xt:Shared->Bool)(Yf:Shared->J)(P:Hk)(s:Shared):=
 (staticsOk (importedModules p.main.body) (boot_heap P) s.heap&&namesBound p s.heap&&gensDone s&&laidKept (boot_heap P) s.heap,openSeen q loose (importedModules p.main.body) Xt true s,Yf s)
def zlF{p q:Hi}{loose:List Str}{Xt:Shared->Bool}{J:Type}{Yf:Shared->J}{Ya:World->J}{N:Nat}
  (e:opening p=plainProg p.main.scope.names)(hN:Nat.ble 600 N=true)(f:∀s,fenceModules? p s=some s)
  (h:∀(w:World) (os:OsState),(segRunT treeTable p w 11 (some (.ref 6)) 0 N (zmV w os) (topStub p)).map (λr=>zgG p q loose Xt Yf w.params r.2.1.abs)=some (true,openGood q loose,Ya w)):LeftO p q loose Xt Yf Ya N true:=by
 intro w;obtain⟨⟨hp,gs,d,k,os⟩,hs,hv⟩:=pY.mp (boot_open e hN f w);obtain⟨rfl,rfl,rfl,rfl⟩:hp=boot_heap w.params/\gs=Array.mk []/\d=boot_drawn/\k=boot_toks:=by simpa using hv
 obtain⟨⟨fl,sT,c,q'⟩,hr,hl⟩:=pY.mp (h w os);obtain⟨l1,l2,l3⟩:_/\_/\_:=by simpa only[zgG,Prod.mk.injEq] using hl
 have r:=zoE (segRun_of hr);rw[zmW] at r;have t:topFrom treeTable p w N ⟨boot_heap w.params,Array.mk [],boot_drawn,boot_toks,os⟩=some sT.abs:=by
  unfold topFrom;dsimp only;rw[zk5,zk4,zmX,r];show (match staticsOk (importedModules p.main.body) (boot_heap w.params) sT.abs.heap&&namesBound p sT.abs.heap&&gensDone sT.abs&&laidKept (boot_heap w.params) sT.abs.heap with|true=>some sT.abs|false=>none)=_;rw[l1]
 unfold openEnds;rw[hs];show (topFrom treeTable p w N _).map _=_;rw[t];exact congrArg some (Prod.ext l2 l3)
noncomputable def fnO(s:Stmt)(pm cd:Value):Obj:=match s with
 | .FunctionDef name args body _ _ _ scope _ _ _=>⟨.type "function",none,.func { name:=name,qualname:=name,params:=args,body:=.stmts body,scope:=scope,globals:=3,closure:=[],defaults:=.none,kwdefaults:=.none,pyModule:=pm,code:=cd },#[]⟩
 | _=>default
noncomputable def fnQ(s:Stmt)(q:Str)(pm cd:Value):Obj:=match s with
 | .FunctionDef name args body _ _ _ scope _ _ _=>⟨.type "function",none,.func { name:=name,qualname:=q,params:=args,body:=.stmts body,scope:=scope,globals:=3,closure:=[],defaults:=.none,kwdefaults:=.none,pyModule:=pm,code:=cd },#[]⟩
 | _=>default
noncomputable def zaN(s:Stmt)(j:Nat):Stmt:=match s with
 | .ClassDef _ _ _ body _ _ _ _ _ _ _=>body.getD j (.Pass ⟨0,0,0,0⟩)
 | s=>s
noncomputable def en(P:Hk)(x:Str)(t:Tok)(v:Value):DictEntry:=⟨PyData.keyHash P x,.str x t,v⟩
end
section
variable{A1 A2 A3 A4 A5 A6 A7 A8 A9 A10 A11 A12 A13 A14 A15 A16:Sort _}{G:Prop}{O1 O2 O3 O4 O5 O6 O7 O8 O9 O10 O11 O12 O13 O14:Prop}{P1 P2 P3 P4 P5 P6 P7 P8:A1->Prop}{Q1 Q2 Q3 Q4 Q5 Q6 Q7 Q8 Q9:A1->A2->Prop}{R1 R2 R3 R4 R5 R6 R7 R8 R9:A1->A2->A3->Prop}{S1 S2 S3 S4 S5 S6 S7 S8 S9:A1->A2->A3->A4->Prop}{T1 T2 T3 T4 T5 T6 T7:A1->A2->A3->A4->A5->Prop}{U1 U2 U3 U4 U5 U6 U7 U8 U9 U10 U11 U12 U13 U14:A1->A2->A3->A4->A5->A6->Prop}{V1 V2 V3 V4 V5 V6 V7 V8 V9 V10 V11 V12 V13 V14:A1->A2->A3->A4->A5->A6->A7->Prop}{W1 W2 W3:A1->A2->A3->A4->A5->A6->A7->A8->Prop}{J1 J2 J3 J4:A1->A2->A3->A4->A5->A6->A7->A8->A9->A10->A11->A12->A13->A14->A15->A16->Prop}
def nos{J:Type}{x:J}{P:Prop}(h:none=some x):P:=nomatch h
def nob{P:Prop}(h:false=true):P:=nomatch h
def qj(h:O1/\O2)(k:O1->O2->G):G:=by obtain⟨p1,p2⟩:=h;exact k p1 p2
def jo(h:∃a,P1 a)(k:∀a,P1 a->G):G:=by obtain⟨a,p1⟩:=h;exact k a p1
def jb(h:O1/\O2/\O3)(k:O1->O2->O3->G):G:=by obtain⟨p1,p2,p3⟩:=h;exact k p1 p2 p3
def zY(h:∃a b,Q1 a b)(k:∀a b,Q1 a b->G):G:=by obtain⟨a,b,p1⟩:=h;exact k a b p1
def zw(h:O1/\O2/\O3/\O4)(k:O1->O2->O3->O4->G):G:=by obtain⟨p1,p2,p3,p4⟩:=h;exact k p1 p2 p3 p4
def kq(h:∃a b c,R1 a b c)(k:∀a b c,R1 a b c->G):G:=by obtain⟨a,b,c,p1⟩:=h;exact k a b c p1
def qa(h:O1/\O2/\O3/\O4/\O5)(k:O1->O2->O3->O4->O5->G):G:=by obtain⟨p1,p2,p3,p4,p5⟩:=h;exact k p1 p2 p3 p4 p5
def zbO(h:∃a b c d,S1 a b c d)(k:∀a b c d,S1 a b c d->G):G:=by obtain⟨a,b,c,d,p1⟩:=h;exact k a b c d p1
def zaH(h:O1/\O2/\O3/\O4/\O5/\O6)(k:O1->O2->O3->O4->O5->O6->G):G:=by obtain⟨p1,p2,p3,p4,p5,p6⟩:=h;exact k p1 p2 p3 p4 p5 p6
def znd(h:∃a b c d e,T1 a b c d e)(k:∀a b c d e,T1 a b c d e->G):G:=by obtain⟨a,b,c,d,e,p1⟩:=h;exact k a b c d e p1
def ze7(h:O1/\O2/\O3/\O4/\O5/\O6/\O7)(k:O1->O2->O3->O4->O5->O6->O7->G):G:=by obtain⟨p1,p2,p3,p4,p5,p6,p7⟩:=h;exact k p1 p2 p3 p4 p5 p6 p7
def zll(h:∃a b c d e f,U1 a b c d e f)(k:∀a b c d e f,U1 a b c d e f->G):G:=by obtain⟨a,b,c,d,e,f,p1⟩:=h;exact k a b c d e f p1
def zdC(h:O1/\O2/\O3/\O4/\O5/\O6/\O7/\O8)(k:O1->O2->O3->O4->O5->O6->O7->O8->G):G:=by obtain⟨p1,p2,p3,p4,p5,p6,p7,p8⟩:=h;exact k p1 p2 p3 p4 p5 p6 p7 p8
def zcG(h:O1/\O2/\O3/\O4/\O5/\O6/\O7/\O8/\O9)(k:O1->O2->O3->O4->O5->O6->O7->O8->O9->G):G:=by obtain⟨p1,p2,p3,p4,p5,p6,p7,p8,p9⟩:=h;exact k p1 p2 p3 p4 p5 p6 p7 p8 p9
def zco(h:O1/\O2/\O3/\O4/\O5/\O6/\O7/\O8/\O9/\O10/\O11/\O12/\O13/\O14)(k:O1->O2->O3->O4->O5->O6->O7->O8->O9->O10->O11->O12->O13->O14->G):G:=by obtain⟨p1,p2,p3,p4,p5,p6,p7,p8,p9,p10,p11,p12,p13,p14⟩:=h;exact k p1 p2 p3 p4 p5 p6 p7 p8 p9 p10 p11 p12 p13 p14
def zbj(h:∃a b c d e f g i j l m n o p q r,J1 a b c d e f g i j l m n o p q r)(k:∀a b c d e f g i j l m n o p q r,J1 a b c d e f g i j l m n o p q r->G):G:=by obtain⟨a,b,c,d,e,f,g,i,j,l,m,n,o,p,q,r,p1⟩:=h;exact k a b c d e f g i j l m n o p q r p1
def zb(h:∃a,P1 a/\P2 a)(k:∀a,P1 a->P2 a->G):G:=jo h λa h=>qj h λp1 p2=>k a p1 p2
def ko(h:O1/\O2/\∃a,P1 a)(k:O1->O2->∀a,P1 a->G):G:=jb h λp1 p2 h=>jo h λa p3=>k p1 p2 a p3
def qN(h:O1/\∃a,P1 a/\P2 a)(k:O1->∀a,P1 a->P2 a->G):G:=qj h λp1 h=>jo h λa h=>qj h λp2 p3=>k p1 a p2 p3
def zj(h:∃a,P1 a/\P2 a/\P3 a)(k:∀a,P1 a->P2 a->P3 a->G):G:=jo h λa h=>jb h λp1 p2 p3=>k a p1 p2 p3
def jq(h:∃a b,Q1 a b/\Q2 a b)(k:∀a b,Q1 a b->Q2 a b->G):G:=zY h λa b h=>qj h λp1 p2=>k a b p1 p2
def zpl(h:O1/\∃a,P1 a/\P2 a/\P3 a)(k:O1->∀a,P1 a->P2 a->P3 a->G):G:=qj h λp1 h=>jo h λa h=>jb h λp2 p3 p4=>k p1 a p2 p3 p4
def zpm(h:O1/\∃a b,Q1 a b/\Q2 a b)(k:O1->∀a b,Q1 a b->Q2 a b->G):G:=qj h λp1 h=>zY h λa b h=>qj h λp2 p3=>k p1 a b p2 p3
def zy(h:∃a,P1 a/\P2 a/\P3 a/\P4 a)(k:∀a,P1 a->P2 a->P3 a->P4 a->G):G:=jo h λa h=>zw h λp1 p2 p3 p4=>k a p1 p2 p3 p4
def jp(h:∃a,P1 a/\P2 a/\∃b,Q1 a b)(k:∀a,P1 a->P2 a->∀b,Q1 a b->G):G:=jo h λa h=>jb h λp1 p2 h=>jo h λb p3=>k a p1 p2 b p3
def zl(h:∃a b,Q1 a b/\Q2 a b/\Q3 a b)(k:∀a b,Q1 a b->Q2 a b->Q3 a b->G):G:=zY h λa b h=>jb h λp1 p2 p3=>k a b p1 p2 p3
def jy(h:∃a b c,R1 a b c/\R2 a b c)(k:∀a b c,R1 a b c->R2 a b c->G):G:=kq h λa b c h=>qj h λp1 p2=>k a b c p1 p2
def zbN(h:O1/\O2/\∃a b,Q1 a b/\Q2 a b)(k:O1->O2->∀a b,Q1 a b->Q2 a b->G):G:=jb h λp1 p2 h=>zY h λa b h=>qj h λp3 p4=>k p1 p2 a b p3 p4
def zdD(h:O1/\∃a b c,R1 a b c/\R2 a b c)(k:O1->∀a b c,R1 a b c->R2 a b c->G):G:=qj h λp1 h=>kq h λa b c h=>qj h λp2 p3=>k p1 a b c p2 p3
def zg5(h:∃a,P1 a/\P2 a/\P3 a/\P4 a/\P5 a)(k:∀a,P1 a->P2 a->P3 a->P4 a->P5 a->G):G:=jo h λa h=>qa h λp1 p2 p3 p4 p5=>k a p1 p2 p3 p4 p5
def kE(h:∃a,P1 a/\∃b,Q1 a b/\Q2 a b/\Q3 a b)(k:∀a,P1 a->∀b,Q1 a b->Q2 a b->Q3 a b->G):G:=jo h λa h=>qj h λp1 h=>jo h λb h=>jb h λp2 p3 p4=>k a p1 b p2 p3 p4
def zh(h:∃a b,Q1 a b/\Q2 a b/\Q3 a b/\Q4 a b)(k:∀a b,Q1 a b->Q2 a b->Q3 a b->Q4 a b->G):G:=zY h λa b h=>zw h λp1 p2 p3 p4=>k a b p1 p2 p3 p4
def jh(h:∃a b c,R1 a b c/\R2 a b c/\R3 a b c)(k:∀a b c,R1 a b c->R2 a b c->R3 a b c->G):G:=kq h λa b c h=>jb h λp1 p2 p3=>k a b c p1 p2 p3
def zlk(h:O1/\∃a b,Q1 a b/\Q2 a b/\Q3 a b/\Q4 a b)(k:O1->∀a b,Q1 a b->Q2 a b->Q3 a b->Q4 a b->G):G:=qj h λp1 h=>zY h λa b h=>zw h λp2 p3 p4 p5=>k p1 a b p2 p3 p4 p5
def ze8(h:∃a,P1 a/\P2 a/\P3 a/\P4 a/\P5 a/\P6 a)(k:∀a,P1 a->P2 a->P3 a->P4 a->P5 a->P6 a->G):G:=jo h λa h=>zaH h λp1 p2 p3 p4 p5 p6=>k a p1 p2 p3 p4 p5 p6
def zq(h:∃a b,Q1 a b/\Q2 a b/\Q3 a b/\Q4 a b/\Q5 a b)(k:∀a b,Q1 a b->Q2 a b->Q3 a b->Q4 a b->Q5 a b->G):G:=zY h λa b h=>qa h λp1 p2 p3 p4 p5=>k a b p1 p2 p3 p4 p5
def za6(h:∃a b c,R1 a b c/\R2 a b c/\R3 a b c/\R4 a b c)(k:∀a b c,R1 a b c->R2 a b c->R3 a b c->R4 a b c->G):G:=kq h λa b c h=>zw h λp1 p2 p3 p4=>k a b c p1 p2 p3 p4
def qK(h:∃a b c d,S1 a b c d/\S2 a b c d/\S3 a b c d)(k:∀a b c d,S1 a b c d->S2 a b c d->S3 a b c d->G):G:=zbO h λa b c d h=>jb h λp1 p2 p3=>k a b c d p1 p2 p3
def qk(h:O1/\∃a b,Q1 a b/\Q2 a b/\Q3 a b/\Q4 a b/\Q5 a b)(k:O1->∀a b,Q1 a b->Q2 a b->Q3 a b->Q4 a b->Q5 a b->G):G:=qj h λp1 h=>zY h λa b h=>qa h λp2 p3 p4 p5 p6=>k p1 a b p2 p3 p4 p5 p6
def zdE(h:∃a,P1 a/\P2 a/\P3 a/\P4 a/\P5 a/\P6 a/\P7 a)(k:∀a,P1 a->P2 a->P3 a->P4 a->P5 a->P6 a->P7 a->G):G:=jo h λa h=>ze7 h λp1 p2 p3 p4 p5 p6 p7=>k a p1 p2 p3 p4 p5 p6 p7
def zdF(h:∃a b,Q1 a b/\Q2 a b/\Q3 a b/\Q4 a b/\Q5 a b/\Q6 a b)(k:∀a b,Q1 a b->Q2 a b->Q3 a b->Q4 a b->Q5 a b->Q6 a b->G):G:=zY h λa b h=>zaH h λp1 p2 p3 p4 p5 p6=>k a b p1 p2 p3 p4 p5 p6
def zi4(h:∃a b,Q1 a b/\Q2 a b/\Q3 a b/\∃c,R1 a b c/\R2 a b c)(k:∀a b,Q1 a b->Q2 a b->Q3 a b->∀c,R1 a b c->R2 a b c->G):G:=zY h λa b h=>zw h λp1 p2 p3 h=>jo h λc h=>qj h λp4 p5=>k a b p1 p2 p3 c p4 p5
def jX(h:∃a b c,R1 a b c/\R2 a b c/\R3 a b c/\R4 a b c/\R5 a b c)(k:∀a b c,R1 a b c->R2 a b c->R3 a b c->R4 a b c->R5 a b c->G):G:=kq h λa b c h=>qa h λp1 p2 p3 p4 p5=>k a b c p1 p2 p3 p4 p5
def kg(h:O1/\∃a b,Q1 a b/\Q2 a b/\Q3 a b/\Q4 a b/\Q5 a b/\Q6 a b)(k:O1->∀a b,Q1 a b->Q2 a b->Q3 a b->Q4 a b->Q5 a b->Q6 a b->G):G:=qj h λp1 h=>zY h λa b h=>zaH h λp2 p3 p4 p5 p6 p7=>k p1 a b p2 p3 p4 p5 p6 p7
def zg6(h:∃a,P1 a/\P2 a/\P3 a/\P4 a/\P5 a/\P6 a/\P7 a/\P8 a)(k:∀a,P1 a->P2 a->P3 a->P4 a->P5 a->P6 a->P7 a->P8 a->G):G:=jo h λa h=>zdC h λp1 p2 p3 p4 p5 p6 p7 p8=>k a p1 p2 p3 p4 p5 p6 p7 p8
def jc(h:∃a b c,R1 a b c/\R2 a b c/\R3 a b c/\R4 a b c/\R5 a b c/\R6 a b c)(k:∀a b c,R1 a b c->R2 a b c->R3 a b c->R4 a b c->R5 a b c->R6 a b c->G):G:=kq h λa b c h=>zaH h λp1 p2 p3 p4 p5 p6=>k a b c p1 p2 p3 p4 p5 p6
def zg7(h:∃a b c,R1 a b c/\∃d,S1 a b c d/\S2 a b c d/\∃e,T1 a b c d e)(k:∀a b c,R1 a b c->∀d,S1 a b c d->S2 a b c d->∀e,T1 a b c d e->G):G:=kq h λa b c h=>qj h λp1 h=>jo h λd h=>jb h λp2 p3 h=>jo h λe p4=>k a b c p1 d p2 p3 e p4
def zW(h:∃a b c d,S1 a b c d/\S2 a b c d/\S3 a b c d/\S4 a b c d/\S5 a b c d)(k:∀a b c d,S1 a b c d->S2 a b c d->S3 a b c d->S4 a b c d->S5 a b c d->G):G:=zbO h λa b c d h=>qa h λp1 p2 p3 p4 p5=>k a b c d p1 p2 p3 p4 p5
def jI(h:∃a b c d,S1 a b c d/\S2 a b c d/\S3 a b c d/\S4 a b c d/\S5 a b c d/\S6 a b c d)(k:∀a b c d,S1 a b c d->S2 a b c d->S3 a b c d->S4 a b c d->S5 a b c d->S6 a b c d->G):G:=zbO h λa b c d h=>zaH h λp1 p2 p3 p4 p5 p6=>k a b c d p1 p2 p3 p4 p5 p6
def zeP(h:∃a b,Q1 a b/\Q2 a b/\Q3 a b/\Q4 a b/\Q5 a b/\Q6 a b/\Q7 a b/\Q8 a b/\Q9 a b)(k:∀a b,Q1 a b->Q2 a b->Q3 a b->Q4 a b->Q5 a b->Q6 a b->Q7 a b->Q8 a b->Q9 a b->G):G:=zY h λa b h=>zcG h λp1 p2 p3 p4 p5 p6 p7 p8 p9=>k a b p1 p2 p3 p4 p5 p6 p7 p8 p9
def zeQ(h:∃a b c,R1 a b c/\R2 a b c/\R3 a b c/\R4 a b c/\R5 a b c/\R6 a b c/\R7 a b c/\R8 a b c)(k:∀a b c,R1 a b c->R2 a b c->R3 a b c->R4 a b c->R5 a b c->R6 a b c->R7 a b c->R8 a b c->G):G:=kq h λa b c h=>zdC h λp1 p2 p3 p4 p5 p6 p7 p8=>k a b c p1 p2 p3 p4 p5 p6 p7 p8
def zdG(h:∃a b c,R1 a b c/\R2 a b c/\R3 a b c/\R4 a b c/\R5 a b c/\R6 a b c/\R7 a b c/\R8 a b c/\R9 a b c)(k:∀a b c,R1 a b c->R2 a b c->R3 a b c->R4 a b c->R5 a b c->R6 a b c->R7 a b c->R8 a b c->R9 a b c->G):G:=kq h λa b c h=>zcG h λp1 p2 p3 p4 p5 p6 p7 p8 p9=>k a b c p1 p2 p3 p4 p5 p6 p7 p8 p9
def qO(h:∃a b c d e,T1 a b c d e/\T2 a b c d e/\T3 a b c d e/\T4 a b c d e/\T5 a b c d e/\T6 a b c d e/\T7 a b c d e)(k:∀a b c d e,T1 a b c d e->T2 a b c d e->T3 a b c d e->T4 a b c d e->T5 a b c d e->T6 a b c d e->T7 a b c d e->G):G:=znd h λa b c d e h=>ze7 h λp1 p2 p3 p4 p5 p6 p7=>k a b c d e p1 p2 p3 p4 p5 p6 p7
def k8(h:∃a b c d e f,U1 a b c d e f/\U2 a b c d e f/\U3 a b c d e f/\U4 a b c d e f/\U5 a b c d e f/\U6 a b c d e f/\U7 a b c d e f/\U8 a b c d e f/\U9 a b c d e f/\U10 a b c d e f/\U11 a b c d e f/\U12 a b c d e f/\U13 a b c d e f/\U14 a b c d e f)(k:∀a b c d e f,U1 a b c d e f->U2 a b c d e f->U3 a b c d e f->U4 a b c d e f->U5 a b c d e f->U6 a b c d e f->U7 a b c d e f->U8 a b c d e f->U9 a b c d e f->U10 a b c d e f->U11 a b c d e f->U12 a b c d e f->U13 a b c d e f->U14 a b c d e f->G):G:=zll h λa b c d e f h=>zco h λp1 p2 p3 p4 p5 p6 p7 p8 p9 p10 p11 p12 p13 p14=>k a b c d e f p1 p2 p3 p4 p5 p6 p7 p8 p9 p10 p11 p12 p13 p14
def k9(h:∃a b c d e f g i j l m n o p q r,J1 a b c d e f g i j l m n o p q r/\J2 a b c d e f g i j l m n o p q r/\J3 a b c d e f g i j l m n o p q r/\J4 a b c d e f g i j l m n o p q r)(k:∀a b c d e f g i j l m n o p q r,J1 a b c d e f g i j l m n o p q r->J2 a b c d e f g i j l m n o p q r->J3 a b c d e f g i j l m n o p q r->J4 a b c d e f g i j l m n o p q r->G):G:=zbj h λa b c d e f g i j l m n o p q r h=>zw h λp1 p2 p3 p4=>k a b c d e f g i j l m n o p q r p1 p2 p3 p4
def qT(p1:O1)(p2:O2):O1/\O2:=⟨p1,p2⟩
def zav(a)(p1:P1 a):∃a,P1 a:=⟨a,p1⟩
def zp(p1:O1)(p2:O2)(p3:O3):O1/\O2/\O3:=⟨p1,p2,p3⟩
def jL(a)(b)(p1:Q1 a b):∃a b,Q1 a b:=⟨a,b,p1⟩
def zr(p1:O1)(p2:O2)(p3:O3)(p4:O4):O1/\O2/\O3/\O4:=⟨p1,p2,p3,p4⟩
def jM(a)(b)(c)(p1:R1 a b c):∃a b c,R1 a b c:=⟨a,b,c,p1⟩
def jz(p1:O1)(p2:O2)(p3:O3)(p4:O4)(p5:O5):O1/\O2/\O3/\O4/\O5:=⟨p1,p2,p3,p4,p5⟩
def zks(a)(b)(c)(d)(p1:S1 a b c d):∃a b c d,S1 a b c d:=⟨a,b,c,d,p1⟩
def qb(p1:O1)(p2:O2)(p3:O3)(p4:O4)(p5:O5)(p6:O6):O1/\O2/\O3/\O4/\O5/\O6:=⟨p1,p2,p3,p4,p5,p6⟩
def znz(a)(b)(c)(d)(e)(p1:T1 a b c d e):∃a b c d e,T1 a b c d e:=⟨a,b,c,d,e,p1⟩
def zfg(p1:O1)(p2:O2)(p3:O3)(p4:O4)(p5:O5)(p6:O6)(p7:O7):O1/\O2/\O3/\O4/\O5/\O6/\O7:=⟨p1,p2,p3,p4,p5,p6,p7⟩
def zfh(a)(b)(c)(d)(e)(f)(p1:U1 a b c d e f):∃a b c d e f,U1 a b c d e f:=⟨a,b,c,d,e,f,p1⟩
def zdV(p1:O1)(p2:O2)(p3:O3)(p4:O4)(p5:O5)(p6:O6)(p7:O7)(p8:O8):O1/\O2/\O3/\O4/\O5/\O6/\O7/\O8:=⟨p1,p2,p3,p4,p5,p6,p7,p8⟩
def zcK(p1:O1)(p2:O2)(p3:O3)(p4:O4)(p5:O5)(p6:O6)(p7:O7)(p8:O8)(p9:O9):O1/\O2/\O3/\O4/\O5/\O6/\O7/\O8/\O9:=⟨p1,p2,p3,p4,p5,p6,p7,p8,p9⟩
def kJ(p1:O1)(p2:O2)(p3:O3)(p4:O4)(p5:O5)(p6:O6)(p7:O7)(p8:O8)(p9:O9)(p10:O10)(p11:O11)(p12:O12)(p13:O13)(p14:O14):O1/\O2/\O3/\O4/\O5/\O6/\O7/\O8/\O9/\O10/\O11/\O12/\O13/\O14:=⟨p1,p2,p3,p4,p5,p6,p7,p8,p9,p10,p11,p12,p13,p14⟩
def ztN(p1:O1)(a)(p2:P1 a):O1/\∃a,P1 a:=qT p1 (zav a p2)
def zd(a)(p1:P1 a)(p2:P2 a):∃a,P1 a/\P2 a:=zav a (qT p1 p2)
def zae(p1:O1)(p2:O2)(a)(p3:P1 a):O1/\O2/\∃a,P1 a:=zp p1 p2 (zav a p3)
def kt(p1:O1)(a)(p2:P1 a)(p3:P2 a):O1/\∃a,P1 a/\P2 a:=qT p1 (zav a (qT p2 p3))
def zr9(p1:O1)(a)(b)(p2:Q1 a b):O1/\∃a b,Q1 a b:=qT p1 (jL a b p2)
def zt(a)(p1:P1 a)(p2:P2 a)(p3:P3 a):∃a,P1 a/\P2 a/\P3 a:=zav a (zp p1 p2 p3)
def zbw(a)(b)(p1:Q1 a b)(p2:Q2 a b):∃a b,Q1 a b/\Q2 a b:=jL a b (qT p1 p2)
def zpE(p1:O1)(p2:O2)(a)(p3:P1 a)(p4:P2 a):O1/\O2/\∃a,P1 a/\P2 a:=zp p1 p2 (zav a (qT p3 p4))
def zf5(p1:O1)(a)(p2:P1 a)(p3:P2 a)(p4:P3 a):O1/\∃a,P1 a/\P2 a/\P3 a:=qT p1 (zav a (zp p2 p3 p4))
def zf6(p1:O1)(a)(b)(p2:Q1 a b)(p3:Q2 a b):O1/\∃a b,Q1 a b/\Q2 a b:=qT p1 (jL a b (qT p2 p3))
def jU(a)(p1:P1 a)(p2:P2 a)(p3:P3 a)(p4:P4 a):∃a,P1 a/\P2 a/\P3 a/\P4 a:=zav a (zr p1 p2 p3 p4)
def qc(a)(p1:P1 a)(p2:P2 a)(b)(p3:Q1 a b):∃a,P1 a/\P2 a/\∃b,Q1 a b:=zav a (zp p1 p2 (zav b p3))
def zI(a)(b)(p1:Q1 a b)(p2:Q2 a b)(p3:Q3 a b):∃a b,Q1 a b/\Q2 a b/\Q3 a b:=jL a b (zp p1 p2 p3)
def zag(a)(b)(c)(p1:R1 a b c)(p2:R2 a b c):∃a b c,R1 a b c/\R2 a b c:=jM a b c (qT p1 p2)
def zny(p1:O1)(a)(b)(c)(p2:R1 a b c)(p3:R2 a b c):O1/\∃a b c,R1 a b c/\R2 a b c:=qT p1 (jM a b c (qT p2 p3))
def zdW(a)(p1:P1 a)(p2:P2 a)(p3:P3 a)(p4:P4 a)(p5:P5 a):∃a,P1 a/\P2 a/\P3 a/\P4 a/\P5 a:=zav a (jz p1 p2 p3 p4 p5)
def zhk(a)(p1:P1 a)(b)(p2:Q1 a b)(p3:Q2 a b)(p4:Q3 a b):∃a,P1 a/\∃b,Q1 a b/\Q2 a b/\Q3 a b:=zav a (qT p1 (zav b (zp p2 p3 p4)))
def zn(a)(b)(p1:Q1 a b)(p2:Q2 a b)(p3:Q3 a b)(p4:Q4 a b):∃a b,Q1 a b/\Q2 a b/\Q3 a b/\Q4 a b:=jL a b (zr p1 p2 p3 p4)
def qU(a)(b)(c)(p1:R1 a b c)(p2:R2 a b c)(p3:R3 a b c):∃a b c,R1 a b c/\R2 a b c/\R3 a b c:=jM a b c (zp p1 p2 p3)
def zcr(p1:O1)(a)(b)(p2:Q1 a b)(p3:Q2 a b)(p4:Q3 a b)(p5:Q4 a b):O1/\∃a b,Q1 a b/\Q2 a b/\Q3 a b/\Q4 a b:=qT p1 (jL a b (zr p2 p3 p4 p5))
def ja(a)(b)(p1:Q1 a b)(p2:Q2 a b)(p3:Q3 a b)(p4:Q4 a b)(p5:Q5 a b):∃a b,Q1 a b/\Q2 a b/\Q3 a b/\Q4 a b/\Q5 a b:=jL a b (jz p1 p2 p3 p4 p5)
def j3(a)(b)(c)(p1:R1 a b c)(p2:R2 a b c)(p3:R3 a b c)(p4:R4 a b c):∃a b c,R1 a b c/\R2 a b c/\R3 a b c/\R4 a b c:=jM a b c (zr p1 p2 p3 p4)
def je(p1:O1)(a)(b)(p2:Q1 a b)(p3:Q2 a b)(p4:Q3 a b)(p5:Q4 a b)(p6:Q5 a b):O1/\∃a b,Q1 a b/\Q2 a b/\Q3 a b/\Q4 a b/\Q5 a b:=qT p1 (jL a b (jz p2 p3 p4 p5 p6))
def zaf(a)(p1:P1 a)(p2:P2 a)(p3:P3 a)(p4:P4 a)(p5:P5 a)(p6:P6 a)(p7:P7 a):∃a,P1 a/\P2 a/\P3 a/\P4 a/\P5 a/\P6 a/\P7 a:=zav a (zfg p1 p2 p3 p4 p5 p6 p7)
def zjb(a)(p1:P1 a)(b)(c)(p2:R1 a b c)(p3:R2 a b c)(p4:R3 a b c)(p5:R4 a b c):∃a,P1 a/\∃b c,R1 a b c/\R2 a b c/\R3 a b c/\R4 a b c:=zav a (qT p1 (jL b c (zr p2 p3 p4 p5)))
def zE(a)(b)(c)(p1:R1 a b c)(p2:R2 a b c)(p3:R3 a b c)(p4:R4 a b c)(p5:R5 a b c):∃a b c,R1 a b c/\R2 a b c/\R3 a b c/\R4 a b c/\R5 a b c:=jM a b c (jz p1 p2 p3 p4 p5)
def jZ(p1:O1)(a)(b)(p2:Q1 a b)(p3:Q2 a b)(p4:Q3 a b)(p5:Q4 a b)(p6:Q5 a b)(p7:Q6 a b):O1/\∃a b,Q1 a b/\Q2 a b/\Q3 a b/\Q4 a b/\Q5 a b/\Q6 a b:=qT p1 (jL a b (qb p2 p3 p4 p5 p6 p7))
def zaP(a)(b)(c)(p1:R1 a b c)(p2:R2 a b c)(p3:R3 a b c)(p4:R4 a b c)(p5:R5 a b c)(p6:R6 a b c):∃a b c,R1 a b c/\R2 a b c/\R3 a b c/\R4 a b c/\R5 a b c/\R6 a b c:=jM a b c (qb p1 p2 p3 p4 p5 p6)
def j4(a)(b)(c)(d)(p1:S1 a b c d)(p2:S2 a b c d)(p3:S3 a b c d)(p4:S4 a b c d)(p5:S5 a b c d):∃a b c d,S1 a b c d/\S2 a b c d/\S3 a b c d/\S4 a b c d/\S5 a b c d:=zks a b c d (jz p1 p2 p3 p4 p5)
def zf7(p1:O1)(a)(b)(c)(p2:R1 a b c)(p3:R2 a b c)(p4:R3 a b c)(p5:R4 a b c)(p6:R5 a b c)(p7:R6 a b c):O1/\∃a b c,R1 a b c/\R2 a b c/\R3 a b c/\R4 a b c/\R5 a b c/\R6 a b c:=qT p1 (jM a b c (qb p2 p3 p4 p5 p6 p7))
def qF(a)(b)(c)(d)(p1:S1 a b c d)(p2:S2 a b c d)(p3:S3 a b c d)(p4:S4 a b c d)(p5:S5 a b c d)(p6:S6 a b c d):∃a b c d,S1 a b c d/\S2 a b c d/\S3 a b c d/\S4 a b c d/\S5 a b c d/\S6 a b c d:=zks a b c d (qb p1 p2 p3 p4 p5 p6)
def zeT(a)(b)(c)(p1:R1 a b c)(p2:R2 a b c)(p3:R3 a b c)(p4:R4 a b c)(p5:R5 a b c)(p6:R6 a b c)(p7:R7 a b c)(p8:R8 a b c):∃a b c,R1 a b c/\R2 a b c/\R3 a b c/\R4 a b c/\R5 a b c/\R6 a b c/\R7 a b c/\R8 a b c:=jM a b c (zdV p1 p2 p3 p4 p5 p6 p7 p8)
def zaO(a)(b)(p1:Q1 a b)(c)(d)(e)(p2:T1 a b c d e)(p3:T2 a b c d e)(p4:T3 a b c d e)(p5:T4 a b c d e)(p6:T5 a b c d e)(p7:T6 a b c d e):∃a b,Q1 a b/\∃c d e,T1 a b c d e/\T2 a b c d e/\T3 a b c d e/\T4 a b c d e/\T5 a b c d e/\T6 a b c d e:=jL a b (qT p1 (jM c d e (qb p2 p3 p4 p5 p6 p7)))
def zdX(a)(b)(c)(p1:R1 a b c)(p2:R2 a b c)(p3:R3 a b c)(p4:R4 a b c)(p5:R5 a b c)(p6:R6 a b c)(p7:R7 a b c)(p8:R8 a b c)(p9:R9 a b c):∃a b c,R1 a b c/\R2 a b c/\R3 a b c/\R4 a b c/\R5 a b c/\R6 a b c/\R7 a b c/\R8 a b c/\R9 a b c:=jM a b c (zcK p1 p2 p3 p4 p5 p6 p7 p8 p9)
def zaQ(a)(b)(c)(d)(e)(p1:T1 a b c d e)(p2:T2 a b c d e)(p3:T3 a b c d e)(p4:T4 a b c d e)(p5:T5 a b c d e)(p6:T6 a b c d e)(p7:T7 a b c d e):∃a b c d e,T1 a b c d e/\T2 a b c d e/\T3 a b c d e/\T4 a b c d e/\T5 a b c d e/\T6 a b c d e/\T7 a b c d e:=znz a b c d e (zfg p1 p2 p3 p4 p5 p6 p7)
def zat(a)(p1:P1 a)(b)(c)(d)(p2:S1 a b c d)(p3:S2 a b c d)(p4:S3 a b c d)(p5:S4 a b c d)(p6:S5 a b c d)(p7:S6 a b c d)(p8:S7 a b c d)(p9:S8 a b c d):∃a,P1 a/\∃b c d,S1 a b c d/\S2 a b c d/\S3 a b c d/\S4 a b c d/\S5 a b c d/\S6 a b c d/\S7 a b c d/\S8 a b c d:=zav a (qT p1 (jM b c d (zdV p2 p3 p4 p5 p6 p7 p8 p9)))
def zcs(a)(p1:P1 a)(b)(c)(d)(p2:S1 a b c d)(p3:S2 a b c d)(p4:S3 a b c d)(p5:S4 a b c d)(p6:S5 a b c d)(p7:S6 a b c d)(p8:S7 a b c d)(p9:S8 a b c d)(p10:S9 a b c d):∃a,P1 a/\∃b c d,S1 a b c d/\S2 a b c d/\S3 a b c d/\S4 a b c d/\S5 a b c d/\S6 a b c d/\S7 a b c d/\S8 a b c d/\S9 a b c d:=zav a (qT p1 (jM b c d (zcK p2 p3 p4 p5 p6 p7 p8 p9 p10)))
def zah(a)(b)(c)(d)(e)(f)(p1:U1 a b c d e f)(p2:U2 a b c d e f)(p3:U3 a b c d e f)(p4:U4 a b c d e f)(p5:U5 a b c d e f)(p6:U6 a b c d e f)(p7:U7 a b c d e f)(p8:U8 a b c d e f)(p9:U9 a b c d e f)(p10:U10 a b c d e f)(p11:U11 a b c d e f)(p12:U12 a b c d e f)(p13:U13 a b c d e f)(p14:U14 a b c d e f):∃a b c d e f,U1 a b c d e f/\U2 a b c d e f/\U3 a b c d e f/\U4 a b c d e f/\U5 a b c d e f/\U6 a b c d e f/\U7 a b c d e f/\U8 a b c d e f/\U9 a b c d e f/\U10 a b c d e f/\U11 a b c d e f/\U12 a b c d e f/\U13 a b c d e f/\U14 a b c d e f:=zfh a b c d e f (kJ p1 p2 p3 p4 p5 p6 p7 p8 p9 p10 p11 p12 p13 p14)
def jR(a)(p1:P1 a)(b)(c)(d)(e)(f)(g)(p2:V1 a b c d e f g)(p3:V2 a b c d e f g)(p4:V3 a b c d e f g)(p5:V4 a b c d e f g)(p6:V5 a b c d e f g)(p7:V6 a b c d e f g)(p8:V7 a b c d e f g)(p9:V8 a b c d e f g)(p10:V9 a b c d e f g)(p11:V10 a b c d e f g)(p12:V11 a b c d e f g)(p13:V12 a b c d e f g)(p14:V13 a b c d e f g)(p15:V14 a b c d e f g):∃a,P1 a/\∃b c d e f g,V1 a b c d e f g/\V2 a b c d e f g/\V3 a b c d e f g/\V4 a b c d e f g/\V5 a b c d e f g/\V6 a b c d e f g/\V7 a b c d e f g/\V8 a b c d e f g/\V9 a b c d e f g/\V10 a b c d e f g/\V11 a b c d e f g/\V12 a b c d e f g/\V13 a b c d e f g/\V14 a b c d e f g:=zav a (qT p1 (zfh b c d e f g (kJ p2 p3 p4 p5 p6 p7 p8 p9 p10 p11 p12 p13 p14 p15)))
end
section
set_option genSizeOf false
set_option genInjectivity false
namespace La
open Lean.Omega
inductive T where
 | v (i:Nat)|n (k:Nat)|a (s t:T)|s (s t:T)|m (k:Nat) (t:T)|x (s t:T)|y (s t:T)|c (t:T)|g (t:T)|o (t:T)
inductive P where
 | l (b:Bool) (s t:T)|e (b:Bool) (s t:T)|a (p q:P)|o (p q:P)|i (p q:P)|f
noncomputable def tv(z:List Int)(t:T):Nat×Int:=
 T.rec (motive:=λ_=>Nat×Int) (λi=>((IntList.get z i).toNat,IntList.get z i)) (λk=>(k,(k:Int))) (λ_ _ s t=>(s.1+t.1,s.2+t.2)) (λ_ _ s t=>(s.1-t.1,s.2-t.2)) (λk _ t=>(k*t.1,(k:Int)*t.2)) (λ_ _ s t=>(max s.1 t.1,max s.2 t.2)) (λ_ _ s t=>(min s.1 t.1,min s.2 t.2)) (λ_ t=>(t.1,(t.1:Int))) (λ_ t=>(0,- t.2)) (λ_ t=>(t.2.toNat,(t.2.toNat:Int))) t
def dn(z:List Int)(p:P):Prop:=
 P.rec (motive:=λ_=>Prop) (λb s t=>bif b then (tv z s).2<=(tv z t).2 else (tv z s).1<=(tv z t).1) (λb s t=>bif b then (tv z s).2=(tv z t).2 else (tv z s).1=(tv z t).1) (λ_ _ p q=>p/\q) (λ_ _ p q=>p\/q) (λ_ _ p q=>p->q) False p
noncomputable abbrev L:=LinearCombo
noncomputable def cc(k:Int):L:=⟨k,[]⟩
noncomputable abbrev K:=L->List L->Bool
noncomputable def lf(n:Nat)(t:T):Bool->List L->K->Bool:=
 T.rec (motive:=λ_=>Bool->List L->K->Bool)
  (λi b cs k=>(b||i.blt n)&&k (.coordinate i) cs)
  (λj _ cs k=>k (cc j) cs)
  (λ_ _ s t b cs k=>s b cs λl cs=>t b cs λr cs=>k (l+r) cs)
  (λ_ _ s t b cs k=>s b cs λl cs=>t b cs λr cs=>bif b then k (l-r) cs else k (l-r) ((l-r)::cs)&&k (cc 0) ((r-l)::cs))
  (λj _ t b cs k=>t b cs λl cs=>k ((j:Int)*l) cs)
  (λ_ _ s t b cs k=>s b cs λl cs=>t b cs λr cs=>k l ((l-r)::cs)&&k r ((r-l)::cs))
  (λ_ _ s t b cs k=>s b cs λl cs=>t b cs λr cs=>k r ((l-r)::cs)&&k l ((r-l)::cs))
  (λ_ t _ cs k=>t false cs k)
  (λ_ t b cs k=>b&&t b cs λl cs=>k (-l) cs)
  (λ_ t _ cs k=>t true cs λl cs=>k l ((l-cc 0)::cs)&&k (cc 0) ((cc 0-l)::cs)) t
section
variable{z:List Int}{cs:List L}{l r:L}{n:Nat}
def Sat(z:List Int)(cs:List L):Prop:=∀l∈cs,0<=l.eval z
noncomputable def Va(b:Bool)(p:Nat×Int):Int:=bif b then p.2 else p.1
def Sat.sub(h:Sat z cs)(g:r.eval z<=l.eval z):Sat z ((l-r)::cs):=
 fR.mpr ⟨(LinearCombo.sub_eval l r z).symm▸Int.sub_nonneg_of_le g,h⟩
def zbM(k:Int):(cc k).eval z=k:=fDN k
def Sat.lt(h:Sat z cs)(g:r.eval z<l.eval z):Sat z ((l-(r+cc 1))::cs):=
 h.sub (fCY (Int.le_of_eq ((LinearCombo.add_eval r (cc 1) z).trans (congrArg (r.eval z + ·) (zbM 1)))) g)
def an{a b:Bool}(h:(a&&b)=true):a=true/\b=true:=gO.mp h
def Ok(n:Nat)(z:List Int)(t:T):Prop:=
 ∀(b:Bool) (cs:List L) (k:K),Sat z cs->lf n t b cs k=true->(∀l cs,Sat z cs->l.eval z=Va b (tv z t)->k l cs=true->False)->False
def Bo(z:List Int)(b:Bool)(s t:T)(l r:L)(cs:List L)(k:Bool):Prop:=
 Sat z cs->l.eval z=Va b (tv z s)->r.eval z=Va b (tv z t)->k=true->False
def two{s t:T}(hs:Ok n z s)(ht:Ok n z t){b:Bool}{k:L->L->List L->Bool}(h:Sat z cs)(e:lf n s b cs (λl cs=>lf n t b cs λr cs=>k l r cs)=true)
  (f:∀l r cs,Bo z b s t l r cs (k l r cs)):False:=
 hs b cs _ h e λl cs h1 e1 e=>ht b cs _ h1 e λr cs h2 e2 e=>f l r cs h2 e1 e2 e
def V_n(b:Bool)(k:Nat):Va b (k,(k:Int))=k:=by cases b<;>exact rfl
def ztm(b:Bool)(p q:Nat×Int):Va b (p.1+q.1,p.2+q.2)=Va b p+Va b q:=by cases b<;>exact rfl
def ztp(b:Bool)(k:Nat)(q:Nat×Int):Va b (k*q.1,(k:Int)*q.2)=k*Va b q:=by cases b<;>exact rfl
def zrc(b:Bool)(p q:Nat×Int):Va b (max p.1 q.1,max p.2 q.2)=max (Va b p) (Va b q):=by
 cases b with
 | true=>exact rfl
 | false=>exact(fDO q.1 p.1).elim (λh=>(congrArg Int.ofNat (Nat.max_eq_left h)).trans (fDQ (fBH.mpr h)).symm) λh=>(congrArg Int.ofNat (Nat.max_eq_right h)).trans (fDJ (fBH.mpr h)).symm
def zrd(b:Bool)(p q:Nat×Int):Va b (min p.1 q.1,min p.2 q.2)=min (Va b p) (Va b q):=by
 cases b with
 | true=>exact rfl
 | false=>exact(fDO p.1 q.1).elim (λh=>(congrArg Int.ofNat (Nat.min_eq_left h)).trans (fCV (fBH.mpr h)).symm) λh=>(congrArg Int.ofNat (Nat.min_eq_right h)).trans (fCN (fBH.mpr h)).symm
def ztq(p q:Nat×Int)(h:Va false q<=Va false p):Va false (p.1-q.1,p.2-q.2)=Va false p-Va false q:=Int.ofNat_sub (fBH.mp h)
def zrJ(p q:Nat×Int)(h:Va false p<=Va false q):Va false (p.1-q.1,p.2-q.2)=0:=congrArg Int.ofNat (Nat.sub_eq_zero_of_le (fBH.mp h))
def spl{A B:Bool}{a b:Int}(ea:l.eval z=a)(eb:r.eval z=b)(h:Sat z cs)(e:(A&&B)=true)
  (f:b<=a->Sat z ((l-r)::cs)->A=true->False)(g:a<=b->Sat z ((r-l)::cs)->B=true->False):False:=
 (fCZ b a).elim (λq=>f q (h.sub (ea▸eb▸q)) (an e).1) λq=>g q (h.sub (ea▸eb▸q)) (an e).2
def zcN(hn:∀i,i.blt n=true->0<=IntList.get z i)(t:T):Ok n z t:=by
 induction t with
 | v i=>
  intro b cs k h e f;cases b with
  | true=>exact f _ _ h (LinearCombo.coordinate_eval i z) e
  | false=>exact f _ _ h ((LinearCombo.coordinate_eval i z).trans (fAQ (hn i (an e).1)).symm) (an e).2
 | n j=>exact λb cs k h e f=>f _ _ h ((zbM _).trans (V_n b j).symm) e
 | a s t hs ht=>exact λb cs k h e f=>two hs ht h e λl r cs h e1 e2 e=>f _ _ h ((LinearCombo.add_eval l r z).trans ((congr (congrArg _ e1) e2).trans (ztm b _ _).symm)) e
 | s s t hs ht=>
  intro b cs k h e f;refine two hs ht h e λl r cs h e1 e2 e=>?_;have e3:=(LinearCombo.sub_eval l r z).trans (congr (congrArg _ e1) e2);cases b with
  | true=>exact f _ _ h e3 e
  | false=>exact spl e1 e2 h e (λq h e=>f _ _ h (e3.trans (ztq _ _ q).symm) e) λq h e=>f _ _ h ((zbM 0).trans (zrJ _ _ q).symm) e
 | m j t ht=>exact λb cs k h e f=>ht b cs _ h e λl cs h e1 e=>f _ _ h ((LinearCombo.smul_eval l j z).trans ((congrArg _ e1).trans (ztp b j _).symm)) e
 | x s t hs ht=>exact λb cs k h e f=>two hs ht h e λl r cs h e1 e2 e=>spl e1 e2 h e (λq h e=>f _ _ h (e1.trans ((zrc b _ _).trans (fDQ q)).symm) e) λq h e=>f _ _ h (e2.trans ((zrc b _ _).trans (fDJ q)).symm) e
 | y s t hs ht=>exact λb cs k h e f=>two hs ht h e λl r cs h e1 e2 e=>spl e1 e2 h e (λq h e=>f _ _ h (e2.trans ((zrd b _ _).trans (fCN q)).symm) e) λq h e=>f _ _ h (e1.trans ((zrd b _ _).trans (fCV q)).symm) e
 | c t ht=>exact λb cs k h e f=>ht false cs k h e λl cs h e1 e=>f _ _ h (e1.trans (V_n b _).symm) e
 | g t ht=>
  intro b cs k h e f;cases b with
  | true=>exact ht true cs _ h e λl cs h e1 e=>f _ _ h ((LinearCombo.neg_eval l z).trans (congrArg _ e1)) e
  | false=>exact Bool.noConfusion e
 | o t ht=>exact λb cs k h e f=>ht true cs _ h e λl cs h e1 e=>spl e1 (zbM 0) h e (λq h e=>f _ _ h (e1.trans ((V_n b _).trans (fAQ q)).symm) e) λq h e=>f _ _ h ((zbM 0).trans ((V_n b _).trans (congrArg Int.ofNat (Int.toNat_of_nonpos q))).symm) e
abbrev Ja:=List L->(List L->Bool)->Bool
noncomputable def jn(w:Bool)(A B:Ja):Ja:=λcs k=>bif w then A cs (λcs=>B cs k) else A cs k&&B cs k
noncomputable def ps(n:Nat)(p:P):Bool->Ja:=
 P.rec (motive:=λ_=>Bool->Ja)
  (λb s t w cs k=>lf n s b cs λl cs=>lf n t b cs λr cs=>k ((bif w then r-l else l-(r+cc 1))::cs))
  (λb s t w cs k=>lf n s b cs λl cs=>lf n t b cs λr cs=>bif w then k ((r-l)::(l-r)::cs) else k ((r-(l+cc 1))::cs)&&k ((l-(r+cc 1))::cs))
  (λ_ _ p q w=>jn w (p w) (q w)) (λ_ _ p q w=>jn (!w) (p w) (q w)) (λ_ _ p q w=>jn (!w) (p (!w)) (q w)) (λw cs k=>w||k cs) p
def OkJ(z:List Int)(A:Ja)(a:Prop):Prop:=∀(cs:List L) (k:List L->Bool),Sat z cs->a->A cs k=true->(∀cs,Sat z cs->k cs=true->False)->False
def jn1{A B:Ja}{a b:Prop}(ha:OkJ z A a)(hb:OkJ z B b):OkJ z (jn true A B) (a/\b):=
 λcs k h g e f=>ha cs _ h g.1 e λcs h e=>hb cs k h g.2 e f
def jn0{A B:Ja}{a b:Prop}(ha:OkJ z A a)(hb:OkJ z B b):OkJ z (jn false A B) (a\/b):=
 λcs k h g e f=>g.elim (λg=>ha cs k h g (an e).1 f) λg=>hb cs k h g (an e).2 f
def OkJ.of{A:Ja}{a b:Prop}(h:OkJ z A a)(i:b->a):OkJ z A b:=λcs k s g=>h cs k s (i g)
def zto(b:Bool)(s t:T):dn z (.l b s t)↔Va b (tv z s)<=Va b (tv z t):=by
 cases b with
 | false=>exact fBH.symm
 | true=>exact Iff.rfl
def ztn(b:Bool)(s t:T):dn z (.e b s t)↔Va b (tv z s)=Va b (tv z t):=by
 cases b with
 | false=>exact Int.ofNat_inj.symm
 | true=>exact Iff.rfl
def zt5(hn:∀i,i.blt n=true->0<=IntList.get z i)(p:P):OkJ z (ps n p true) (dn z p)/\OkJ z (ps n p false) (¬dn z p):=by
 induction p with
 | l b s t=>exact⟨λcs k h g e f=>two (zcN hn s) (zcN hn t) h e λl r cs h e1 e2 e=>f _ (h.sub (e1▸e2▸(zto b s t).mp g)) e,
   λcs k h g e f=>two (zcN hn s) (zcN hn t) h e λl r cs h e1 e2 e=>f _ (h.lt (e1▸e2▸fCO.mp (mt (zto b s t).mpr g))) e⟩
 | e b s t=>exact⟨λcs k h g e f=>two (zcN hn s) (zcN hn t) h e λl r cs h e1 e2 e=>
    have g:=e1.trans (((ztn b s t).mp g).trans e2.symm)
    f _ ((h.sub (Int.le_of_eq g.symm)).sub (Int.le_of_eq g)) e,
   λcs k h g e f=>two (zcN hn s) (zcN hn t) h e λl r cs h e1 e2 e=>(Int.lt_or_gt_of_ne (mt (ztn b s t).mpr g)).elim (λg=>f _ (h.lt (e1▸e2▸g)) (an e).1) λg=>f _ (h.lt (e1▸e2▸g)) (an e).2⟩
 | a p q hp hq=>exact⟨jn1 hp.1 hq.1,(jn0 hp.2 hq.2).of Classical.not_and_iff_not_or_not.mp⟩
 | o p q hp hq=>exact⟨jn0 hp.1 hq.1,(jn1 hp.2 hq.2).of not_or.mp⟩
 | i p q hp hq=>exact⟨(jn0 hp.2 hq.1).of λg=>(Classical.em _).elim (λa=>.inr (g a)) .inl,(jn1 hp.1 hq.2).of Classical.not_imp.mp⟩
 | f=>exact⟨λ_ _ _ g _ _=>g,λcs k h _ e f=>f cs h e⟩
noncomputable def cm(a b:Nat)(l r:L):List L:=bif (a*b).beq 0 then [] else [(a:Int)*l+(b:Int)*r]
noncomputable def step(i:Nat)(cs:List L):List L:=
 cs.filter (λl=>(IntList.get l.coeffs i).natAbs.beq 0)++cs.flatMap λl=>cs.flatMap λr=>cm (- IntList.get r.coeffs i).toNat (IntList.get l.coeffs i).toNat l r
def zqx(i:Nat)(h:Sat z cs):Sat z (step i cs):=by
 refine List.forall_mem_append.mpr ⟨λl hl=>h l (fU.mp hl).1,λx hx=>?_⟩;obtain⟨l,hl,hx⟩:=pZ.mp hx;obtain⟨r,hr,hx⟩:=pZ.mp hx;have go:∀(a b:Nat),x∈cm a b l r->0<=x.eval z:=by
  intro a b hx;unfold cm at hx;cases hc:(a*b).beq 0 with
  | true=>rw[hc] at hx;exact absurd hx gQ
  | false=>
   rw[hc] at hx;rw[fP.mp hx,LinearCombo.add_eval,LinearCombo.smul_eval,LinearCombo.smul_eval];exact Int.add_nonneg (Int.mul_nonneg (pA a) (h l hl)) (Int.mul_nonneg (pA b) (h r hr))
 exact go _ _ hx
noncomputable def bad(l:L):Bool:=decide (l.const<0)&&l.coeffs.all λx=>decide (x=0)
noncomputable def ref(n:Nat):List L->Bool:=Nat.rec (motive:=λ_=>List L->Bool) (λcs=>cs.any bad) (λi f cs=>cs.any bad||f (step i cs)) n
def zmR(h:Sat z cs)(e:cs.any bad=true):False:=by
 obtain⟨l,hl,e⟩:=List.any_eq_true.mp e;have e1:l.eval z=l.const:=(congrArg (l.const + ·) (IntList.dot_eq_zero_of_left_eq_zero λx hx=>H0 (fAA.mp (an e).2 x hx))).trans (fDN _);exact absurd (e1▸h l hl) (fCO.mpr (H0 (an e).1))
def zsD(n:Nat):∀cs,Sat z cs->ref n cs=true->False:=by
 induction n with
 | zero=>exact λcs h e=>zmR h e
 | succ n ih=>exact λcs h e=>(Bool.or_eq_true_iff.mp e).elim (zmR h) (ih _ (zqx n h))
def znv(c:List Nat):∀i,i.blt c.length=true->0<=IntList.get (c.map Int.ofNat++z) i:=by
 induction c with
 | nil=>exact λi h=>Bool.noConfusion h
 | cons a c ih=>exact λi h=>Nat.casesOn (motive:=λi=>i.blt (c.length+1)=true->0<=IntList.get (Int.ofNat a::(c.map Int.ofNat++z)) i) i (λ_=>pA a) (λi h=>ih i h) h
noncomputable def ck(p:P)(c:List Nat)(z:List Int):Bool:=ps c.length p false ((List.range c.length).map .coordinate) (ref (c.length+z.length))
def lin(p:P)(c:List Nat)(z:List Int)(h:ck p c z=true:=by kernel_rfl):dn (c.map Int.ofNat++z) p:=by
 refine Classical.byContradiction λg=>(zt5 (znv c) p).2 _ _ (λl hl=>?_) g h (zsD _);obtain⟨i,hi,rfl⟩:=fG.mp hl;exact LinearCombo.coordinate_eval i _▸znv c i (Nat.ble_eq.mpr (gV.mp hi))
noncomputable def d1(k:T->T)(p:T×Nat):T×Nat:=(k p.1,p.2)
noncomputable def d2(k:T->T->T)(r:Nat->T×Nat)(p:T×Nat):T×Nat:=d1 (k p.1) (r p.2)
noncomputable def dT(f:Nat):Nat->T×Nat:=Nat.rec (motive:=λ_=>Nat->T×Nat) (λc=>(.v 0,c)) (λ_ r c=>
 bif (c%32).blt 8 then (.v (c%32),c/32) else bif (c%32).blt 18 then (.n (c%32-8),c/32) else bif (c%32).beq 20 then d2 .a r (r (c/32)) else bif (c%32).beq 21 then d2 .s r (r (c/32)) else bif (c%32).beq 18 then (.n (c/32%1048576),c/33554432)
 else bif (c%32).beq 25 then d1 .c (r (c/32)) else bif (c%32).beq 22 then d1 (.m (c/32%1048576)) (r (c/33554432)) else bif (c%32).beq 23 then d2 .x r (r (c/32)) else bif (c%32).beq 24 then d2 .y r (r (c/32)) else bif (c%32).beq 26 then d1 .g (r (c/32)) else bif (c%32).beq 27 then d1 .o (r (c/32)) else (.n (c/32%1152921504606846976),c/36893488147419103232)) f
noncomputable def e1(k:P->P)(p:P×Nat):P×Nat:=(k p.1,p.2)
noncomputable def e2(k:P->P->P)(r:Nat->P×Nat)(p:P×Nat):P×Nat:=e1 (k p.1) (r p.2)
noncomputable def f1(k:T->P)(p:T×Nat):P×Nat:=(k p.1,p.2)
noncomputable def f2(k:T->T->P)(p:T×Nat):P×Nat:=f1 (k p.1) (dT 20 p.2)
noncomputable def dP(f:Nat):Nat->P×Nat:=Nat.rec (motive:=λ_=>Nat->P×Nat) (λc=>(.f,c)) (λ_ r c=>
 bif (c%32).blt 2 then f2 (.l ((c%32).beq 1)) (dT 20 (c/32)) else bif (c%32).blt 4 then f2 (.e ((c%32).beq 3)) (dT 20 (c/32)) else bif (c%32).beq 6 then e2 .i r (r (c/32)) else bif (c%32).beq 4 then e2 .a r (r (c/32)) else bif (c%32).beq 5 then e2 .o r (r (c/32)) else (.f,c/32)) f
def za(n:Nat)(c:List Nat)(z:List Int)(h:ck (dP 20 n).1 c z=true:=by kernel_rfl):dn (c.map Int.ofNat++z) (dP 20 n).1:=lin _ c z h
end
end La
end
section
open La
noncomputable abbrev La.v0:La.T:=.v 0
noncomputable abbrev La.v1:La.T:=.v 1
noncomputable abbrev La.v2:La.T:=.v 2
noncomputable abbrev La.v3:La.T:=.v 3
noncomputable abbrev La.v4:La.T:=.v 4
noncomputable abbrev La.n0:La.T:=.n 0
noncomputable abbrev La.n1:La.T:=.n 1
noncomputable abbrev La.n2:La.T:=.n 2
noncomputable abbrev La.n3:La.T:=.n 3
noncomputable abbrev La.n4:La.T:=.n 4
noncomputable abbrev La.n5:La.T:=.n 5
noncomputable abbrev La.n6:La.T:=.n 6
noncomputable abbrev La.n7:La.T:=.n 7
noncomputable abbrev La.P.p:=P.l false
noncomputable abbrev La.P.z:=P.l true
noncomputable abbrev La.P.q:=P.e false
noncomputable abbrev La.P.w:=P.e true
variable{a b c d e f g i j k m o:Nat}{u v w x y z s t r:Int}
def y0 : -(1000000000000000:Int)<(1:Int):=za 0x1290038d7ea4c680009ea81 [] []
def y1:0+1<=1:=za 0x94a280 [] []
def y2:(1:Int)<1000000000000000:=za 0x71afd498d000134a681 [] []
def y3:(1:Int)>0:=za 0x94a281 [] []
def y4:0<1:=za 0x94a280 [] []
def y5:0<=100:=za 0x324900 [] []
def y6:0<=64:=za 0x204900 [] []
def y7:0<=u/\u<90->u.toNat+1<=90:=za 0x5a9241ba000016a490502040486 [] [u]
def y12 : -1000000000000<u->-1000000000000000<u:=za 0x4801c6bf526340004f54081200001d1a94a20013d5026 [] [u]
def y14:0<u->¬u=0:=za 0x1d001980945026 [] [u]
def y25:1<=u->0<=u:=za 0x10102426 [] [u]
def y33:u<1000000->u.toNat<1000000:=za 0xf42409241ba03d09024905026 [] [u]
def y34:u<1000000000000->u<1000000000000000:=za 0x1c6bf526340004d20a0400003a3529440026905026 [] [u]
def y41:u<u->False:=za 0x1c0905026 [] [u]
def y42:¬0<=u->u<0:=za 0x2120a04e0404c6 [] [u]
def y43:u+(1-1)=u:=za 0x129a8283 [] [u]
def y47 : -1000000000000<v->u<1000000000000->(((u-v).toNat:Nat):Int)<1000000000000000:=za 0xe35fa931a000269082bbcd0200001d1a94a2001348281305200001d1a94a20013d5026 [] [u,v]
def y54:u.toNat=v.toNat->0<=u->0<=v->u=v:=za 0x100c28098080983b06c46 [] [u,v]
def y55:u<v->u<=v:=za 0x10042905026 [] [u,v]
def y57:v<u->u-v=(((u-v).toNat:Nat):Int):=za 0x415de420a8c090d026 [] [u,v]
def y58:v<u->¬u<=v:=za 0x1c20098090d026 [] [u,v]
def y59:v>u->u<=v:=za 0x10042905026 [] [u,v]
def y60:¬u>v->u<=v:=za 0x40138121a04c6 [] [u,v]
def y61:¬v<u->0=(((u-v).toNat:Nat):Int):=za 0x415de50338121a04c6 [] [u,v]
def y62:¬v<u->u<=v:=za 0x40138121a04c6 [] [u,v]
def y65 : -1000000000000000<(((u-v).toNat:Nat):Int):=za 0x20aef290038d7ea4c680009ea81 [] [u,v]
def y68:u<=w->v=w->u<=v:=za 0x4011046610026 [] [u,v,w]
def y69:v>w->u<w->u<v:=za 0x148281124140982915026 [] [u,v,w]
def y70:v>w->u=w->u<v:=za 0x520a04401982915026 [] [u,v,w]
def y71:x-y<=w->u<=x->y<=v->u-v<=w:=za 0x820a842409860098441d426 [] [u,v,w,x,y]
def y96:u.toNat<a->u<(a:Int):=za 0xca43408121dd006 [a] [u]
def y97:u+1+(a:Int)=u+((a+1:Nat):Int):=za 0x905321a03290d283 [a] [u]
def y98:u+((a+1:Nat):Int)=u+(a:Int)+1:=za 0x906434a2414c8683 [a] [u]
def y99:a<=80/\b<=80->0<=u/\u<(a:Int)->0<=u/\u<90:=za 0x5a9245408901203291502240486000509040000a1200086 [a,b] [u]
def zup:a<=80/\b<=80->0<=u/\u<(b:Int)->0<=u/\u<90:=za 0x5a9245408901207291502240486000509040000a1200086 [a,b] [u]
def zyv:u.toNat<b->b=a->u.toNat<a:=za 0x48b740002230522dd006 [a,b] [u]
def zyw:a+1<=1000000->a<=16777216:=za 0x20000013003d09024905006 [a] []
def zyx:1<=a->¬0+1=a->0+1<a:=za 0x1294528038128a08c602406 [a] []
def zyy:1<=a->¬1=a->1+1<=a:=za 0x129a00e0488c602406 [a] []
def zyz:1<=a->¬1=a->1<a:=za 0x129a00e0488c602406 [a] []
def zyA:1<=a->¬a=1->2<=a:=za 0x500e9008c602406 [a] []
def zyB:1<=a->¬a>1->a=1:=za 0x240238129a00c602406 [a] []
def zyC:1<=a->0+1<=a:=za 0x4a28002406 [a] []
def zqT:1<=a->a-1<a:=za 0x1290568002406 [a] []
def zsN:1<=a->0<a:=za 0x4a28002406 [a] []
def zsO:1<=a->1<=a:=za 0x12002406 [a] []
def zvG:1<=a->a=a-1+1:=za 0x2520ad00202406 [a] []
def zvP:2<=a->¬a-1=1->2<=a-1:=za 0x9055403a520a88c602806 [a] []
def zyD:2<=a->a-2-1+1<a:=za 0x1294a815ad28002806 [a] []
def zyE:2<=a->a-1-1<a-1:=za 0x24154a520ad68002806 [a] []
def zyF:2<=a->a-2+1<a:=za 0x4a540ad28002806 [a] []
def zyG:2<=a->0<a:=za 0x4a28002806 [a] []
def zsP:2<=a->1<=a:=za 0x12002806 [a] []
def zqU:2<=a->2<=a:=za 0x14002806 [a] []
def zvW:a<100->a<=16777216:=za 0x20000013000001924905006 [a] []
def zyH:a<1000->a+1<=1000:=za 0x1f44920a0000fa24905006 [a] []
def zvX:a<1000000->a<=16777216:=za 0x20000013003d09024905006 [a] []
def zyI:a<2->a<2:=za 0x2920a014905006 [a] []
def zvY:a<400->a+1<590:=za 0x49d24a414a00006424905006 [a] []
def zyJ:a<500->a+1+1<590:=za 0x127492948294a00007d24905006 [a] []
def zyK:a<500->a+1<600:=za 0x4b124a414a00007d24905006 [a] []
def zyL:a<520->a+1<540:=za 0x43924a414a00008224905006 [a] []
def zyM:a<520->a+1<560:=za 0x46124a414a00008224905006 [a] []
def zyN:a<520->a+1<580:=za 0x48924a414a00008224905006 [a] []
def zyO:a<540->a+1<550:=za 0x44d24a414a00008724905006 [a] []
def zyP:a<540->a+1<570:=za 0x47524a414a00008724905006 [a] []
def zyQ:a<540->a+1<590:=za 0x49d24a414a00008724905006 [a] []
def zyR:a<550->a+1<560:=za 0x46124a414a000089a4905006 [a] []
def zyS:a<550->a+1<570:=za 0x47524a414a000089a4905006 [a] []
def zvZ:a<560->a+1<570:=za 0x47524a414a00008c24905006 [a] []
def zyT:a<560->a+1<580:=za 0x48924a414a00008c24905006 [a] []
def zyU:a<560->a+1<590:=za 0x49d24a414a00008c24905006 [a] []
def zv0:a<570->a+1<580:=za 0x48924a414a00008ea4905006 [a] []
def zv1:a<570->a+1<590:=za 0x49d24a414a00008ea4905006 [a] []
def ziE:a<580->a+1<590:=za 0x49d24a414a00009124905006 [a] []
def zyV:a<590->a+1<=600:=za 0x12c4920a000093a4905006 [a] []
def zyW:a<60->a+1<=64:=za 0x204920a00000f24905006 [a] []
def zyX:a<80->a+1<=1000000:=za 0x7a1204920a00001424905006 [a] []
def zyY:a>0->a-1<a:=za 0x4a415a000945006 [a] []
def zyZ:a>1->a-2+1<a:=za 0x129502b4a00094d006 [a] []
def zy0:a>1->a-2<a:=za 0x4a815a00094d006 [a] []
def zy1:a<=100->a<=1000:=za 0x1f448000006490006 [a] []
def zy2:a<=100->a<=1000000:=za 0x7a12048000006490006 [a] []
def ziF:a<=1000->a<=1000000:=za 0x7a1204800003e890006 [a] []
def zy3:a<=10000->a<=1000000:=za 0x7a12048000271090006 [a] []
def zy4:a<=1000000->Nat.succ a<=1000000000000:=za 0x1d1a94a2001348280f424090006 [a] []
def zy5:a<=1000000->a<=16777216+1:=za 0x90000000010000009d000f424090006 [a] []
def ziG:a<=1000000->a<=16777216:=za 0x8000004c00f424090006 [a] []
def zy6:a<=200->a<=16777216+1:=za 0x90000000010000009d000000c890006 [a] []
def zy7:a<=256->a+1<=1000000:=za 0x1e84812482800010090006 [a] []
def zv2:a<=256->a<1000000:=za 0x1e84812482800010090006 [a] []
def zy8:a<=3->0+a<=3:=za 0xb0228058006 [a] []
def zy9:a<=3->a+1<=1000000:=za 0x1e848124828058006 [a] []
def zqV:a<=3->a<=100:=za 0x32480058006 [a] []
def zmC:a<=3->a<=1000:=za 0x1f4480058006 [a] []
def zsQ:a<=3->a<=1000000:=za 0x7a120480058006 [a] []
def zza:a<=300->a<1000000:=za 0x1e84812482800012c90006 [a] []
def zv3:a<=4->a<=1000:=za 0x1f4480060006 [a] []
def zzb:a<=8->0+a<=8:=za 0x100228080006 [a] []
def zv4:a<=8->a<=1000:=za 0x1f4480080006 [a] []
def zsR:a<=8->a<=1000000:=za 0x7a120480080006 [a] []
def zv5:a<=80->a<=1000000:=za 0x7a12048000005090006 [a] []
def zsS:¬a-1=0->1<=a-1:=za 0x9055203a120a88c6 [a] []
def zv6:¬a<2->2<=a:=za 0x1403a920a00c6 [a] []
def zv7:¬a=0->a-1<a:=za 0x4a415a00e8008c6 [a] []
def zzc:¬a=0->0<a:=za 0x128a00e8008c6 [a] []
def zzd:¬a=0->1<=a:=za 0x480e8008c6 [a] []
def zze:¬a=1->¬a=0->2<=a:=za 0x1403a002318e9008c6 [a] []
def zv8:¬a>0->a=0:=za 0x200238128a00c6 [a] []
def zzf:¬a<=1->2<=a:=za 0x500e9000c6 [a] []
def zsT:((a+1:Nat):Int)-1=(a:Int):=za 0xca520a66a3 [a] []
def zzg:((0+a:Nat):Int)=(a:Int):=za 0x32045323 [a] []
def zzh:((a+1:Nat):Int)=(a:Int)+1:=za 0x90668905323 [a] []
def zzi:((a+1:Nat):Int)>0:=za 0x482994a281 [a] []
def zzj:(a:Int)-(a:Int)<=0:=za 0x2019066a1 [a] []
def zzk:a+1-a=1:=za 0x2409052a2 [a] []
def zzl : -((a+1:Nat):Int)<=-1:=za 0x4e920a6741 [a] []
def zv9:0+1<=a+1:=za 0x24144a280 [a] []
def zzm:3*(a+1)=3+3*a:=za 0x3b2e890500000ec2 [a] []
def zzn:((a:Int)-0).toNat=a:=za 0x100cd762 [a] []
def zzo:(-1+((a+1:Nat):Int)).toNat=a:=za 0x905329d5362 [a] []
def zzp:min 0 a<=0:=za 0x802300 [a] []
def zzq:a+1<=a+9:=za 0x441448280 [a] []
def zzr:a-0<=a-0:=za 0x2015402a0 [a] []
def zwa:0<=a:=za 0x100 [a] []
def zzs:1<=a+1:=za 0x905120 [a] []
def zwb:a<2*a+1:=za 0x4800000ad448280 [a] []
def zo5:a<a+1:=za 0x241448280 [a] []
def zzt:a<=a+3+1:=za 0x2560a5000 [a] []
def zsU:a<=a+1:=za 0x905000 [a] []
def zqW:a<=a:=za 0x0 [a] []
def zzu:¬(a:Int)<0:=za 0x3a120cd026 [a] []
def zzv:¬a+1=a:=za 0x1c0905046 [a] []
def zzw:(a:Int)<(b:Int)->a<b:=za 0x1482800e520cd026 [a,b] []
def zzx:a<=80/\b<=80->a<1000:=za 0x7d1248280000509040000a1200086 [a,b] []
def zwc:b-1-a>0->a+(b-1-a)=b-1:=za 0x90d4090d6a0a08090d6a945006 [a,b] []
def zzy:b<=80/\a<=80->a<1000:=za 0x7d1248280000509000000a1208086 [a,b] []
def zzz:max (a:Int) (b:Int)<=3->a<=3:=za 0x2c0058720cdc26 [a,b] []
def zzA:max (a:Int) (b:Int)<=3->¬max (a:Int) (b:Int)>3:=za 0x1c39066e95d02658720cdc26 [a,b] []
def zzB:max (b:Int) (a:Int)<=3->a<=3:=za 0x2c0058321cdc26 [a,b] []
def zzC:min (a:Int) (b:Int)=1->a+b=0->False:=za 0x1d010504648720ce066 [a,b] []
def zzD:a+(b+1)<100->a<100:=za 0x324920a00001924948680a5006 [a,b] []
def zzE:a+(b+1)<=100000->a+1+b<=100000:=za 0xc350482905280186a09243405006 [a,b] []
def zzF:a+(b+1)<=100000->a+1<=1000000:=za 0x1e8481248280186a09243405006 [a,b] []
def zzG:a+(b+1)<=100000->a+b<=100000:=za 0x30d41208280186a09243405006 [a,b] []
def zwd:a+(b+1)<=1000000->a+1+b<=1000000:=za 0x7a120482905280f42409243405006 [a,b] []
def zzH:a+(b+1)<=1000000->a+b<=1000000:=za 0x1e8481208280f42409243405006 [a,b] []
def zwe:a+(b+1)<=1000000->a<1000000:=za 0x1e8481248280f42409243405006 [a,b] []
def zzI:a+(b+1)<=3->a+1+b<=3:=za 0x2c29052805a43405006 [a,b] []
def zzJ:a+(b+1)<=3->a<=3:=za 0x2c005a43405006 [a,b] []
def zzK:a+(b+1)<=8->a+1<=1000000:=za 0x1e84812482808243405006 [a,b] []
def zzL:a+(b+1)<=8->a+b<=8:=za 0x10082808243405006 [a,b] []
theorem zwf:a+1<b+1->a<b:=za 0x520a0121a2520a5006 [a,b] []
theorem zwg:a+1<b->¬a+1+1=b->a+1+1<b:=za 0x52948294a00e14a414a08c60a520a5006 [a,b] []
theorem zzM:a+1<b->a+(b-a)<=b:=za 0x401a82800a520a5006 [a,b] []
theorem zzN:a+1<b->a+1<b:=za 0x529052800a520a5006 [a,b] []
theorem zgI:a+1<b->a<b:=za 0x1482800a520a5006 [a,b] []
theorem zzO:a+1<b->a<=b:=za 0x4000a520a5006 [a,b] []
theorem zqX:a+1<=b+1->a<=b:=za 0x4004868905006 [a,b] []
theorem zwh:a+1<=b->a+1+1<=2*b+1:=za 0x4840000ad44a414a002905006 [a,b] []
theorem zzP:a+1<=b->a+1+1<=b+1:=za 0x24344a414a002905006 [a,b] []
theorem zo6:a+1<=b->a<=b:=za 0x10002905006 [a,b] []
theorem zzQ:a+100<b->a+(10+10)<b:=za 0x1480005480002a54052800a40019240a5006 [a,b] []
theorem zsV:a+3000<b->a+1+100<b:=za 0x14800324920a52800a402ee240a5006 [a,b] []
theorem zzR:a+3000<b->a+2+2000<b:=za 0x14803e84940a52800a402ee240a5006 [a,b] []
theorem zzS:a+3000<b->a+100<b:=za 0x52000c92052800a402ee240a5006 [a,b] []
theorem zwi:a+b=0->a=0:=za 0x80090105046 [a,b] []
theorem zzT:a+b<=256->a<=256:=za 0x2012000004024105006 [a,b] []
theorem zzU:a-1<b->a<=b:=za 0x4000a520ad006 [a,b] []
theorem zzV:b+(a+1)<=8->a+1<=1000:=za 0x7d1248280824140d006 [a,b] []
theorem zwj:b+1<a->0<a-b:=za 0x4154a28002521a5006 [a,b] []
theorem zwk:b+1<=a->1<=a:=za 0x480090d006 [a,b] []
theorem zwl:b-a>0->a+(b-a)=b:=za 0x401a8282006a945006 [a,b] []
theorem zwm:0<b->a<=b-1->a<b:=za 0x148280486a00182945006 [a,b] []
theorem zsW:1<=a->a<=b->a-1<b:=za 0x529056800800602406 [a,b] []
theorem zzW:1<=a->¬a-b>0->a-1<b:=za 0x14a415a00e105528a00c602406 [a,b] []
theorem zsX:1<=a->1<=a+b:=za 0x10512002406 [a,b] []
theorem zo7:1<=b->b<=a->1<=a:=za 0x120004060a406 [a,b] []
theorem zsY:1<=b->a+b-1<a+b:=za 0x4144a420a56800a406 [a,b] []
theorem zsZ:2<=a->a<=b->a-1<b:=za 0x529056800800602806 [a,b] []
theorem zzX:2<=a->¬a-1-b>0->a-1-1<b:=za 0x14a520ad68038520ad528a00c602806 [a,b] []
theorem zzY:2<=b->a=b->0<a:=za 0x4a280080460a806 [a,b] []
theorem zzZ:a<b+1->a<b+1:=za 0x2434482804868905006 [a,b] []
theorem zs0:a<b+1->a<=b:=za 0x4004868905006 [a,b] []
theorem zwn:a<b->b<=1000->(a:Int)<1000000:=za 0xf424092419a0400fa2410182905006 [a,b] []
theorem zwo:a<b->¬a+1=b->a+1<b:=za 0x14a414a00e1482823182905006 [a,b] []
theorem zwp:a<b->0<=(a:Int)/\(a:Int)<(b:Int):=za 0x3948334083280902905006 [a,b] []
theorem zz0:a<b->a+1+(b-(a+1))<=b:=za 0x148281aa414a002905006 [a,b] []
theorem zz1:a<b->min (a+1) b=a+1:=za 0x24140a414c082905006 [a,b] []
theorem zwq:a<b->min a b=a:=za 0x20c082905006 [a,b] []
theorem zz2:a<b->a+0<b:=za 0x14a014a002905006 [a,b] []
theorem zz3:a<b->a+1<b+1:=za 0x24344a414a002905006 [a,b] []
theorem zmD:a<b->a+1<=b:=za 0x520a002905006 [a,b] []
theorem zwr:a<b->a<b+1:=za 0x90d120a002905006 [a,b] []
theorem zs1:a<b->a<b:=za 0x520a002905006 [a,b] []
theorem zqY:a<b->a<=b-1:=za 0x24350002905006 [a,b] []
theorem zgJ:a<b->a<=b:=za 0x10002905006 [a,b] []
theorem zz4:a=b+1->b=a->False:=za 0x1c0111921a0046 [a,b] []
theorem zws:a=b->b<a->False:=za 0x1c090d00608046 [a,b] []
theorem zwt:a=b->b<=3->a<=3:=za 0x2c005840608046 [a,b] []
theorem zz5:a=b->a<=0+b:=za 0x14500008046 [a,b] []
theorem zz6:a=b->a<=b+1:=za 0x90d00008046 [a,b] []
theorem zwu:a=b->a<=b:=za 0x40008046 [a,b] []
theorem zz7:a<=20+8*b->a+1+1<=20+8*(b+1):=za 0x243400008b0000a4a894829400400022c000292a0006 [a,b] []
theorem zz8:a<=20+8*b->a+3<=20+8*(b+1):=za 0x90d000022c000292a2c1400400022c000292a0006 [a,b] []
theorem zwv:a<=301+b->a+1<=301+(b+1):=za 0x24340012d95120a0020025b2a0006 [a,b] []
theorem zz9:a<=301+b->a<=301+(b+1):=za 0x90d0004b65400020025b2a0006 [a,b] []
theorem zAa:a<=max 1 (b-max 0 b)->a<=1:=za 0x900028b86a9b8006 [a,b] []
theorem zAb:a<=b+1->a-1+1<=b+1:=za 0x24344a415a0121a0006 [a,b] []
theorem zww:a<=1000->b<=1000->a+b<=1000000:=za 0x1e8481208280003e890406003e890006 [a,b] []
theorem zAc:a<=1000000->a-b<=1000000:=za 0x1e84812082a0f424090006 [a,b] []
theorem zAd:a<=3->b<=3->a+b<=1000000:=za 0x1e84812082805840658006 [a,b] []
theorem zAe:a<=3->b<=3->a+b<=6:=za 0xe082805840658006 [a,b] []
theorem zAf:a<=b->min (max 0 b) b<=a->a=b:=za 0x40200428be00608006 [a,b] []
theorem zs2:a<=b->a>=b->a=b:=za 0x4020040608006 [a,b] []
theorem zAg:a<=b->¬a=b->a+1<=b:=za 0x520a00e1008c608006 [a,b] []
theorem zAh:a<=b->0+(a-1)<=b:=za 0x520aa28008006 [a,b] []
theorem zAi:a<=b->0+a<=b:=za 0x10228008006 [a,b] []
theorem zwx:a<=b->max a b=b:=za 0x1082e208006 [a,b] []
theorem zs3:a<=b->a+(b-a)=b:=za 0x401a828208006 [a,b] []
theorem zAj:a<=b->a-1<=b-1:=za 0x2435482a008006 [a,b] []
theorem zj8:a<=b->a<=b:=za 0x40008006 [a,b] []
theorem zAk:b<100->a<=b+1->a<=100:=za 0x3248004868001800192490d006 [a,b] []
theorem zAl:b<1000000->b=a->a<=16777216:=za 0x200000130000111bd0902490d006 [a,b] []
theorem zAm:b<600->a<=301+b->a<1000:=za 0x7d1248280080096ca8001800962490d006 [a,b] []
theorem zwy:b<a->¬b+1=a->0<a-(b+1):=za 0x243405528a00e048682318090d006 [a,b] []
theorem zqZ:b<a->a+1-(b+1)<a+1-b:=za 0x1482954a43448295a00090d006 [a,b] []
theorem zAn:b<a->0<(a:Int)-(b:Int):=za 0x720cd528a04090d006 [a,b] []
theorem zwz:b<a->0<a:=za 0x128a00090d006 [a,b] []
theorem zAo:b=a+1->a<b:=za 0x520a0120a0446 [a,b] []
theorem zAp:b=a+1->a≠b:=za 0x1c2011920a0446 [a,b] []
theorem zAq:b=a+1->a<=b+1:=za 0x243400120a0446 [a,b] []
theorem zo8:b=a+1->a<=b:=za 0x100120a0446 [a,b] []
theorem zwA:b=a+1->¬a=b:=za 0x1c2011920a0446 [a,b] []
theorem zwB:b=a+3->a<=b:=za 0x100160a0446 [a,b] []
theorem zAr:b=1->a<b->a=0:=za 0x8008290500648446 [a,b] []
theorem zAs:b=a->a=b:=za 0x40200446 [a,b] []
theorem zs4:b=a->a<=b:=za 0x40000446 [a,b] []
theorem zwC:b<=100000->a<=b->1+a<=1000000:=za 0x1e848120268008006186a090406 [a,b] []
theorem zs5:b<=100000->a<=b->a<=1000000:=za 0x7a120480008006186a090406 [a,b] []
theorem zAt:b<=1000000->a<=b->a<=1000000:=za 0x7a120480008006f424090406 [a,b] []
theorem zs6:b<=1000000->b=a->(a:Int)<9223372036854775808:=lin (.i (.p v1 (.n 1000000)) (.i (.q v1 v0) (.z (.a (.c v0) n1) (.n 9223372036854775808)))) [a,b] []
theorem zAu:b<=1000000->b=a->a<=16777216+1:=za 0x90000000010000009d00000446f424090406 [a,b] []
theorem zwD:b<=1000000->b=a->a<=1000000:=za 0x7a120480000446f424090406 [a,b] []
theorem zeZ:b<=1000000->b=a->a<=16777216:=za 0x8000004c0000446f424090406 [a,b] []
theorem zAv:b<=256->a=b->a<=256:=za 0x804800080460010090406 [a,b] []
theorem zAw:b<=256->a<=b+1->a<=300:=za 0x259200121a00060010090406 [a,b] []
theorem zAx:b<=a->a=b+(a-b):=za 0x4150d00200406 [a,b] []
theorem zAy:¬(b:Int)<(a:Int)->a<=b:=za 0x1000e0ca439a04c6 [a,b] []
theorem zAz:¬a<b->¬b<a->a=b:=za 0x40238121a00c638520a00c6 [a,b] []
theorem zAA:¬a<b->¬a+1<b+1:=za 0x1d21a2520a500638520a00c6 [a,b] []
theorem zAB:¬a>=b+1->a<=b:=za 0x40038121a00c6 [a,b] []
theorem zAC:¬a>=b->a+(b-a)<=b:=za 0x1006a0a00e0080c6 [a,b] []
theorem zq0:¬b<a->a<=b:=za 0x40038121a00c6 [a,b] []
theorem zAD:¬b=0->a=b->a-1<b:=za 0x14a415a0020118e8088c6 [a,b] []
theorem zq1:¬b=0->a=b->1<=a:=za 0x48020118e8088c6 [a,b] []
theorem zAE:¬b>=a->1<=a-b:=za 0x415480e1000c6 [a,b] []
theorem zAF:(a:Int)-((b+1:Nat):Int)=(a:Int)-(b:Int)-1:=za 0x2439066b548699066a3 [a,b] []
theorem zAG:a+(b+1)-1=a+b:=za 0x4144a434052a2 [a,b] []
theorem zAH:a+1+b=a+b+1:=za 0x2420a502905282 [a,b] []
theorem zmE:a+1+b=a+(b+1):=za 0x24340502905282 [a,b] []
theorem zAI:a-0+(b-1)<=a+b-0:=za 0x808295486a805680 [a,b] []
theorem zAJ:a-1+b<=a+b-0:=za 0x2020a542905680 [a,b] []
theorem zAK:min (max (max a 1) b) b=b:=za 0x108520bdf02 [a,b] []
theorem zAL:a+(b+1)=a+b+1:=za 0x2420a5121a0282 [a,b] []
theorem zwE:a<a+(b+1):=za 0x90d01448280 [a,b] []
theorem zj9:a<=a+b:=za 0x105000 [a,b] []
theorem zAM:(b:Int)=u->v<u->v=(a:Int)->a<b:=za 0x1482800646330923a04c20e466 [a,b] [u,v]
theorem zAN:1=c\/a<b->¬1=c->a<=b:=za 0x400389223182905002488a6 [a,b,c] []
theorem zAO:max 0 b+1<=a->a>=b-c:=za 0x106a002428bd006 [a,b,c] []
theorem zAP:a+2*(b+1)+10<c->a+1+2*b+10<c:=za 0x248000548200005648294a50024800054921a000015814a5006 [a,b,c] []
theorem zAQ:a+2*c+10<b->a<b:=za 0xa41400520001521000015814a5006 [a,b,c] []
theorem zAR:a+c+1<=b->a<b:=za 0x1482800a440a5006 [a,b,c] []
theorem zAS:a<b-c\/b+1<=a->¬a=b-c:=za 0x7106a0118090d0020d520a00a6 [a,b,c] []
theorem zAT:a<=b/\b<c->a<=b:=za 0x1000490d00100086 [a,b,c] []
theorem zAU:a<=c/\c<b->a+b-1-c<b:=za 0x148921052b5a00291500200086 [a,b,c] []
theorem zAV:a<=c/\c<b->a<=a+b-1-c:=za 0x921052b5000291500200086 [a,b,c] []
theorem zwF:b+(c+1)-(0+1)<=a->a<b+(c+1)->a=b+(c+1)-1:=za 0x2522a069500922a0689050060251448a81a5406 [a,b,c] []
theorem zAW:b+c-(0+1)<=a->a<b+c->a=b+c-1:=za 0x91069500841a24140180945041a5406 [a,b,c] []
theorem zAX:b-1-c>0->a<c+(b-1-c)->a<b-1:=za 0x90d520a00490d6a2a2414018490d6a945006 [a,b,c] []
theorem zAY:b<a\/c<=b->¬(a<=b/\b<c):=za 0x712434004002182200121a00a6 [a,b,c] []
theorem zAZ:c<a-b\/a+1<=c->¬(a-b<c/\c<=a):=za 0x1c020092105680218490500105522a00a6 [a,b,c] []
theorem zA0:c<=a/\a<b->a<b:=za 0x520a00290500010086 [a,b,c] []
theorem zwG:a+(b+1)<=c->a+b+1<=c:=za 0x921052801243405006 [a,b,c] []
theorem zmF:a+(b+1)<=c->a+b<c:=za 0x921052801243405006 [a,b,c] []
theorem zwH:a+(b+1)<=c->a+b<=c:=za 0x2082801243405006 [a,b,c] []
theorem zA1:a+(c+1)=b->a<b:=za 0x1482800a45405046 [a,b,c] []
theorem zA2:a+(c+1)<=8->b<c+1->a+1+b<=8:=za 0x40290528048a890d0068245405006 [a,b,c] []
theorem zwI:a+(c+1)<=b->a<b:=za 0x1482800a45405006 [a,b,c] []
theorem zA3:a+(c+10)<b->a<b:=za 0x520a00290000a90a80a5006 [a,b,c] []
theorem zA4:a+2000<c->b+1<=100->a+2*b+10<c:=za 0x1240002a4100002b0294a0000192490d00612401f4240a5006 [a,b,c] []
theorem zA5:a+3000<c->b<=100->a+2*b+10<c:=za 0x490000a9040000ac0a5280000649040612402ee240a5006 [a,b,c] []
theorem zA6:a+b<=c->a-1+b<=c:=za 0x20a415a004105006 [a,b,c] []
theorem zA7:a+b<=c->a+(b-1)<=c:=za 0x2486a0a004105006 [a,b,c] []
theorem zA8:a+b<=c->a+b<=c:=za 0x820a004105006 [a,b,c] []
theorem zA9:a+c<=b->1<=c->a<b:=za 0x520a00490182205006 [a,b,c] []
theorem zBa:a+c<=b->a+(b-a)=b:=za 0x1006a0a082205006 [a,b,c] []
theorem zBb:a+c<=b->a<=b:=za 0x10002205006 [a,b,c] []
theorem zBc:a-b=c+1->a-(b+1)=c:=za 0x921a02a248a8105446 [a,b,c] []
theorem zwJ:b-a=c+1->a<b:=za 0x14828048a800d446 [a,b,c] []
theorem zBd:b-c>0->a<c+(b-c)->a<b:=za 0x520a0041a8a8905006106a945006 [a,b,c] []
theorem zBe:c+(b+1)<100->a<=c+1->a+b<100:=za 0x3249210528048a80018001924948682a5006 [a,b,c] []
theorem zBf:c+1<a->1<=a+b:=za 0x10512002522a5006 [a,b,c] []
theorem zBg:c+1=b->c<=a->a<b->a=b-1:=za 0x90d4020a414018020182915046 [a,b,c] []
theorem zq2:c+1<=b+1->a<c+1->a<=b:=za 0x40048a89050064868915006 [a,b,c] []
theorem zwK:c+1<=b->a<=a+b-(c+1):=za 0x2454082950002915006 [a,b,c] []
theorem zBh:c+a<=b->a<=b-c:=za 0x8350002015006 [a,b,c] []
theorem zs7:1<=b+c->a+(b+c)-1<a+(b+c):=za 0x20d0144a441a0295a0041a2406 [a,b,c] []
theorem zBi:1<=b->a<=c->a+(a+b)-1-c<a+b:=za 0x4144892105014ad680100060a406 [a,b,c] []
theorem zBj:1<=c->c<=a->1<=a+b:=za 0x1051200080612406 [a,b,c] []
theorem zwL:a<b+1+c->a<b+(c+1):=za 0x24540d120a00490d28905006 [a,b,c] []
theorem zBk:a<b+1-min c (b+1)->a<=b-c:=za 0x83500121a0b090d2a905006 [a,b,c] []
theorem zBl:a<b+c+1->a<=b+c:=za 0x834001220d28905006 [a,b,c] []
theorem zwM:a<b+(c+1)->¬a<b+c->a=b+c:=za 0x20d002388344828031922a068905006 [a,b,c] []
theorem zBm:a<b+(c+1)->¬a=b+c->a<b+c:=za 0x20d120a00e20d00231922a068905006 [a,b,c] []
theorem zwN:a<b+c->a<b+c:=za 0x834482801068905006 [a,b,c] []
theorem zBn:a<b+c->a<=b+c-1:=za 0x2441a54001068905006 [a,b,c] []
theorem zBo:a<c->a+min b (c-a)<=c:=za 0x802a8700a004905006 [a,b,c] []
theorem zBp:a<c->a-b<c:=za 0x248415a004905006 [a,b,c] []
theorem zBq:a<c->a-b<=c:=za 0x820a804905006 [a,b,c] []
theorem zBr:a<c->a<b+(c-b):=za 0x4550d120a004905006 [a,b,c] []
theorem zwO:a=b+1->c<b->c=a->False:=za 0x7008460a45401921a0046 [a,b,c] []
theorem zwP:a=b+3->c<b->c=a->False:=za 0x7008460a45401961a0046 [a,b,c] []
theorem zBs:a=b+c->b<=1000->c<=1000->a<=100000:=za 0x30d41200000fa24201800fa24101841a0046 [a,b,c] []
theorem zBt:a=c->b=c+1->a<=b:=za 0x100122a044610046 [a,b,c] []
theorem zo9:a=c->c<b->a<=b:=za 0x1000291500610046 [a,b,c] []
theorem zBu:a=c->c<=b->a+(b-a)=b:=za 0x401a82820880610046 [a,b,c] []
theorem zq3:a=c->c<=b->a<=b:=za 0x4000880610046 [a,b,c] []
theorem zwQ:a=c->¬b<c->a<=b:=za 0x40038921a00c610046 [a,b,c] []
theorem zwR:a<=b+c->¬a=b+c->a<=b+c-1:=za 0x910695000e20d00231841a0006 [a,b,c] []
theorem zBv:a<=b-(c+1)->a>0->¬c+1+a=b->a<b-(c+1):=za 0x915035482803840915282318094500648a81a8006 [a,b,c] []
theorem zBw:a<=b-c->a>0->¬c+a=b->a<b-c:=za 0x8354828038402a08c60251401841a8006 [a,b,c] []
theorem zwS:a<=b->b-a<=c-max 0 c->a=b:=za 0x100848b8aa00d40608006 [a,b,c] []
theorem zBx:a<=b->min a b-c=a-c:=za 0x205441062a208006 [a,b,c] []
theorem zq4:a<=c->c<b->a<b:=za 0x520a00291500610006 [a,b,c] []
theorem zs8:a<=c->c=b->a<=b:=za 0x4000884610006 [a,b,c] []
theorem zBy:a<=c->c<=b->a<=b:=za 0x4000880610006 [a,b,c] []
theorem zBz:a<=c->a-b<=c-0:=za 0x2055082a010006 [a,b,c] []
theorem zBA:b<100->a<=c+1->c=b->a<=200:=za 0x6448000884648a8001800192490d006 [a,b,c] []
theorem zBB:b<c->max 0 c+1<=a->a>=b+1:=za 0x121a0009122f4018490d006 [a,b,c] []
theorem zBC:b<c->a+b+1<=a+c:=za 0x81448414a00490d006 [a,b,c] []
theorem zs9:b<c->a+b<a+c:=za 0x81448414a00490d006 [a,b,c] []
theorem zBD:b<c->a+b<=a+c:=za 0x205020a00490d006 [a,b,c] []
theorem zta:b=c+1->a<c->a≠b:=za 0x7080461241401922a0446 [a,b,c] []
theorem zBE:b=c+1->a=c+3->a≠b:=za 0x70804658a8011922a0446 [a,b,c] []
theorem zwT:b=c+3->a<c->a≠b:=za 0x7080461241401962a0446 [a,b,c] []
theorem zwU:b=c->a<c->a<b:=za 0x520a00490500610446 [a,b,c] []
theorem zq5:b=c->a<c->a<=b:=za 0x1000490500610446 [a,b,c] []
theorem ztb:b=c->a<=c->a<=b:=za 0x4001000610446 [a,b,c] []
theorem zBF:b=c->¬c<a->a<=b:=za 0x40038122a00c610446 [a,b,c] []
theorem zBG:b<=c-(a+1)->b>0->¬a+1+b=c->a+1+b<c:=za 0x248520a52803882905282318294500648282a8406 [a,b,c] []
theorem zBH:b<=c-(a+1)->b>0->a+1+b<=c:=za 0x20a414a00294500648282a8406 [a,b,c] []
theorem zwV:b<=c-a->1<=b->a+b<=c:=za 0x820a002901802a8406 [a,b,c] []
theorem zBI:b<=c-a->b>0->¬a+b+1=c->¬a+b=c->a+b+1<c:=za 0x92908294a00e208282318e248414a08c60a51401802a8406 [a,b,c] []
theorem zBJ:b<=c-a->b>0->a+b<=c:=za 0x2082800a51401802a8406 [a,b,c] []
theorem zBK:b<=1000->c<=1000->a=b+c->a<=1000000:=za 0x1e8481200041a0046003e890806003e890406 [a,b,c] []
theorem zBL:b<=1000000->b=c->a=c->a<=16777216:=za 0x8000004c001004610446f424090406 [a,b,c] []
theorem zBM:b<=8->a<=20+8*c->a+b<=20+8*(c+1):=za 0x915000022c000292a041400800022c000292a000680406 [a,b,c] []
theorem zwW:b<=a->a<b+c->a-b<c:=za 0x92105680106890500600406 [a,b,c] []
theorem zpa:b<=c->a+b<=a+c:=za 0x8140828010406 [a,b,c] []
theorem zBN:c<a+b->a<=a+(a+b)-1-c:=za 0x92105014ad4000828915006 [a,b,c] []
theorem zBO:c<0->a<=b:=za 0x10010915006 [a,b,c] []
theorem zwX:c<a->a<=b->a-1<b:=za 0x14a415a00200180915006 [a,b,c] []
theorem zBP:c<b->a+1-min b (a+1)<=a-c:=za 0x81548281c2414a802915006 [a,b,c] []
theorem zBQ:c=a+1->b=c->a<=b:=za 0x10004111920a0846 [a,b,c] []
theorem zBR:c=b+1->a=c->¬a<b:=za 0x70a4140184011921a0846 [a,b,c] []
theorem zBS:c=b+3->a=c->¬a<b:=za 0x70a4140184011961a0846 [a,b,c] []
theorem zBT:c=b->c=a->a=b:=za 0x4020084608846 [a,b,c] []
theorem zwY:c<=a->a<=b->b<c+1->a=b:=za 0x40248a890d0060800600806 [a,b,c] []
theorem zBU:c<=a->(a<b->c<b):=za 0x522a00290500600806 [a,b,c] []
theorem zBV:c<=b->a<0+(c-1)->a<b:=za 0x520a0122aa2890500608806 [a,b,c] []
theorem zBW:c<=b->a<0+c->a<b:=za 0x148280122890500608806 [a,b,c] []
theorem zBX:c<=b->a<c+(b-c)->a<b:=za 0x520a0041a8a890500608806 [a,b,c] []
theorem zwZ:c<=b->c=a->a<=b:=za 0x4000084608806 [a,b,c] []
theorem zBY:c<=b->a+b-(a+b-(a+c))=a+c:=za 0x81410281052a1052a208806 [a,b,c] []
theorem zBZ:c<=b->(¬a<b->¬a<c):=za 0x1c490500638520a00c608806 [a,b,c] []
theorem zB0:¬b>=c-a->a+b<c:=za 0x9210528038402a80c6 [a,b,c] []
theorem ztc:¬c<a+b->a+b<=c:=za 0x820a00e105122a00c6 [a,b,c] []
theorem zB1:¬c<b->c<=a->a<=b->a=b:=za 0x402080060080638522a00c6 [a,b,c] []
theorem zB2:¬c=a+b->¬a+b=c:=za 0x1c410504638414108c6 [a,b,c] []
theorem zB3:¬c=0->a+b+(c-1)=a+(b+c)-1:=za 0x910680a5522a8414a08e8108c6 [a,b,c] []
theorem zB4:a+b<=a+b/\a+b<a+b+(c+1):=za 0x915020a5121052800828105004 [a,b,c] []
theorem zw0:a+(b+c)-(a+b)=c:=za 0x820a0834052a2 [a,b,c] []
theorem zB5:a+(b+c)-1=a+b+c-1:=za 0x24410529548834052a2 [a,b,c] []
theorem zB6:a+b-(a+c)<=a+b:=za 0x41410281052a0 [a,b,c] []
theorem zB7:min (a-b) (c-b)<=c:=za 0x208aa105700 [a,b,c] []
theorem zw1:a+(b+c)=a+b+c:=za 0x820a5041a0282 [a,b,c] []
theorem zw2:a<=a+b+c:=za 0x820a5000 [a,b,c] []
theorem zB8:a<=a+b-(a+b-(a+c)):=za 0x205020a5420a5400 [a,b,c] []
theorem zB9:¬(a+(b+1)<=a+b/\a+b<a+(b+1)+c):=za 0x71243405289082940041448680a0086 [a,b,c] []
theorem zCa:a+(b+1)<=c/\c<a+(b+1)+d->a+b<=c/\c<a+b+(d+1):=za 0x91d020a5122a0041050041a434052891500248680a0086 [a,b,c,d] []
theorem zCb:a+c<b/\b<=a+d->a<=b-1:=za 0x243500060a040148814a0086 [a,b,c,d] []
theorem zCc:b+(c+1)<=a/\a<b+(c+1)+d->a-(b+c)=a-(b+(c+1))+1:=za 0x2522a0680ad041a02a21a4540d2890500048a81a0086 [a,b,c,d] []
theorem zCd:b+d<a/\a<=b+c->a-1<b+c:=za 0x8344a415a0041a000048c34a0086 [a,b,c,d] []
theorem zw3:a+2*max b d+10<c->a+2*b+10<c:=za 0x920001520800015814a50024800054861b800015814a5006 [a,b,c,d] []
theorem zw4:a+2*max d b+10<c->a+2*b+10<c:=za 0x920001520800015814a50024800054823b800015814a5006 [a,b,c,d] []
theorem zCe:a+(b+1)-(c+1+1)<=d->a+b-(c+1)<=d:=za 0xd22a0414a806948a9448680a5406 [a,b,c,d] []
theorem zCf:a+b+(c+1)<=d->a+(b+1)+c<=d:=za 0xc490d014a006915020a5006 [a,b,c,d] []
theorem zCg:a+b+(d+1)<=c->a+b<c:=za 0x248414a00491d020a5006 [a,b,c,d] []
theorem zCh:a-b+(c-d)<=a+c-max 0 (a+c)->b+1<a->False:=za 0x1c094869401840a22e2052a315420ad006 [a,b,c,d] []
theorem zCi:c=d\/a<b->¬c=d->a<=b:=za 0x40038c423182905003108a6 [a,b,c,d] []
theorem zCj:min a b<=c->1<=d->min (a+1) b<=c+d:=za 0xc540a414c00690184106006 [a,b,c,d] []
theorem zCk:min c d=1->a=c->b=d->min (a:Int) (b:Int)=1:=za 0x90e419c0c61118401192316046 [a,b,c,d] []
theorem zCl:a+min b (d-a)<=c->b<d-a->a+b<=c:=za 0x820a0003aa434018401d43805006 [a,b,c,d] []
theorem zCm:a+3000<d->b<=100->a+1+min b c<d:=za 0xd220e120a528000064904061a402ee240a5006 [a,b,c,d] []
theorem zw5:a+3000<d->b<=100->a+min b c<d:=za 0x3488380528000064904061a402ee240a5006 [a,b,c,d] []
theorem zCn:a+b<=c+d-max 0 (c+d)->2<=b->False:=za 0x1c2a01862a22e3152a105006 [a,b,c,d] []
theorem zCo:a+b<=c-(d+1)->a+b<=c-1:=za 0x915420a0123a0aa105006 [a,b,c,d] []
theorem zCp:a+d<=c->d-1-b>0->a+b<=c:=za 0x2082800a475aa5140184305006 [a,b,c,d] []
theorem ztd:a+d<=c->b<d->a+b-1<c:=za 0x24a420a56801a4340184305006 [a,b,c,d] []
theorem zpb:a+d<=c->b<d->a+b<c:=za 0x921052801a4340184305006 [a,b,c,d] []
theorem zCq:a+d<=c->b<d->a+b<=c:=za 0x2082801a4340184305006 [a,b,c,d] []
theorem zCr:a+d<=c->b<=d->¬b=d->a+b-1<c:=za 0x24a420a568038c22318610184305006 [a,b,c,d] []
theorem zte:a+d<=c->b<=d->a+b<=c:=za 0x820a00610184305006 [a,b,c,d] []
theorem zCs:b+d<=a->a<b+c->a-b<c:=za 0x248415a0041a2414018030d006 [a,b,c,d] []
theorem zCt:c+d<=b-(a+1)->2<=d->a+1<=b:=za 0x520a006a01920a06a315006 [a,b,c,d] []
theorem zw6:c+d<=1000000->c=a->d=b->a+b<=16777216:=za 0x8000004c20a00231180211bd09024315006 [a,b,c,d] []
theorem zCu:d+(b+10)<c->a<=d+9->a+b<c:=za 0x9210528088e80018490000a90683a5006 [a,b,c,d] []
theorem zCv:d+a<b->b<=c->a<min b c-d:=za 0x31071548280104060a403a5006 [a,b,c,d] []
theorem zCw:d+b<=c->a<=d->a+b<=c:=za 0x820a0060018411d006 [a,b,c,d] []
theorem zCx:1<=c+d->d=0->a<b+(c+d)->a-b<c:=za 0x9210568018a81a24140190311862a2406 [a,b,c,d] []
theorem zCy:1<=a->a+b<=c-d->a-1+b<=c-(d+1):=za 0x2474154290568018aa10500602406 [a,b,c,d] []
theorem zw7:1<=c->d<=a-b->1<=d->1<=min (a-b) c:=za 0x2082b84806901820a8c0612406 [a,b,c,d] []
theorem zCz:1<=d->a+d+b<=c->a+(b+1)<=c:=za 0x921a028010460a50061a406 [a,b,c,d] []
theorem zCA:1<=d->min a b<=c->min (a+1) b<=c+min (b-c) d:=za 0xc41ae0540a414c0041060061a406 [a,b,c,d] []
theorem zCB:2<=b->a+b<=c-d->a+(b-1)<=c-(d+1):=za 0x247415521a828018aa1050060a806 [a,b,c,d] []
theorem zCC:a<b+min (max c 1) d->¬c=0->a<b+c:=za 0x20d120a00e8108c61a457c068905006 [a,b,c,d] []
theorem zCD:a<b+(c+d)->a<=b+(c+d)-1:=za 0x2462a069500062a068905006 [a,b,c,d] []
theorem zCE:a<b+c->a<b+(c+d):=za 0x315034482801068905006 [a,b,c,d] []
theorem zCF:a<b+c->a<=b+(c+d)-1:=za 0x918a81a54001068905006 [a,b,c,d] []
theorem zCG:a<b+c->a<=b+c+d:=za 0xc41a50001068905006 [a,b,c,d] []
theorem zCH:a=b+(c+d)->a=b+c+d:=za 0xc41a500218a81a0046 [a,b,c,d] []
theorem zCI:a=c+(d+1)->b=c+(d+1+1)->a+1=b:=za 0x520a09291d282a044648e82a0046 [a,b,c,d] []
theorem zCJ:a=c+d->¬b<c+d->a<=b:=za 0x40038c544868031862a0046 [a,b,c,d] []
theorem zCK:a=c->b=d->min c d=1->min a b=1:=za 0x2420c0923160461844610046 [a,b,c,d] []
theorem zCL:a<=0+b->b=c+d->c<=80/\d<=80->a<=10000:=za 0x138848000005090c0000a121008618a8111828a0006 [a,b,c,d] []
theorem zCM:a<=b-c->a<d->a<=min (b-c) d:=za 0xc41ae0001a41401841a8006 [a,b,c,d] []
theorem zCN:a<=b->b<=d->d<a+c->a<=b/\b<a+c:=za 0x8144868008004102891d0061840608006 [a,b,c,d] []
theorem zCO:a<=d->b<=c->a+b<=c+d:=za 0xc54082801040618006 [a,b,c,d] []
theorem zw8:a<=d->d<b+c->a<b+c:=za 0x83448280106891d00618006 [a,b,c,d] []
theorem zCP:a<=d->d<=b->b<a+c->a<=b/\b<a+c:=za 0x8144868008004102890d00608c0618006 [a,b,c,d] []
theorem zCQ:a<=d->¬a<b+c->¬a=d->a-(b+c)<d-(b+c):=za 0x20d075488340568038c02318e20d120a00c618006 [a,b,c,d] []
theorem zCR:a<=d->¬a=b+c->d=b+c->a<b+c:=za 0x20d120a0041a0c4638834008c618006 [a,b,c,d] []
theorem zCS:b<c->a+b<d->a+b+1<=a+min c (d-a):=za 0x751601448414a006908294018490d006 [a,b,c,d] []
theorem zCT:b=c+d->a<c+d->a<b:=za 0x520a0062a241401862a0446 [a,b,c,d] []
theorem zCU:b<=1000000->b=c->d<c->a=d->a+1<=16777216+1:=za 0x90000000010000009d120a0060118491d00610446f424090406 [a,b,c,d] []
theorem zCV:b<=1000000->b=c->d<c->a=d->a<=16777216:=za 0x2000001300060118491d00610446f424090406 [a,b,c,d] []
theorem zCW:b<=c->a<=d->a+b<=c+d:=za 0xc54082801800610406 [a,b,c,d] []
theorem ztf:c<d->a+b+c<a+(b+d):=za 0xc340512208294a006915006 [a,b,c,d] []
theorem zCX:c<d->a+b+c<=a+(b+d)-1:=za 0x2461a029510414a006915006 [a,b,c,d] []
theorem zw9:c=a->c<=d->d<=b->a<=b:=za 0x40008c061880600846 [a,b,c,d] []
theorem zq6:c=a->d=b->c<=d->a<=b:=za 0x4001880608c4600846 [a,b,c,d] []
theorem zxa:c=b->d=a->d<=c->a<=b:=za 0x40010c0600c4608846 [a,b,c,d] []
theorem zxb:c=b->d<=c->a<=d->a<=b:=za 0x4001800610c0608846 [a,b,c,d] []
theorem zCY:c=d->a<=d->c<=b->a<=b:=za 0x400088061800618846 [a,b,c,d] []
theorem zCZ:c=d->b<d->min b c=a->a=b:=za 0x40200838118690d00618846 [a,b,c,d] []
theorem zC0:c=d->b=d+1->a<c->¬a=b:=za 0x7080461241401923a044618846 [a,b,c,d] []
theorem zC1:c<=1000->b<=d->a<=c->d<=8->a+b<=1000000:=za 0x1e848120828080c061000618406003e890806 [a,b,c,d] []
theorem zC2:c<=3->d<=3->a=c->b=d->max (a:Int) (b:Int)<=3:=za 0x2c39066e1184461004658c0658806 [a,b,c,d] []
theorem zC3:c<=b->a=d->d<c->a<=b:=za 0x1000491d0061804608806 [a,b,c,d] []
theorem zC4:c<=d->d<c->a<b:=za 0x520a00491d00618806 [a,b,c,d] []
theorem zC5:c<=d->a+b+c<=a+b+d:=za 0xc20a50410528018806 [a,b,c,d] []
theorem zC6:d<=max 1 (b-c)->a+1=d->a<=max 1 (b-(c+1)):=za 0x24540d5370006905046106a9b8c06 [a,b,c,d] []
theorem zC7:d<=b+1->a<=d+c->a<=b+(c+1):=za 0x24540d00010e8001921a0c06 [a,b,c,d] []
theorem ztg:d<=b-a->1<=d->a+min (b-a) c<=b:=za 0x4400d700a006901801a8c06 [a,b,c,d] []
theorem zC8:d<=c->a<b+(c+1)->¬a=b+d->¬(b+d<a/\a<=b+c)->a<b+c:=za 0x20d120a00e20d00002461a5004318e30d00231922a06890500610c06 [a,b,c,d] []
theorem zC9:d<=c->d=a+b->¬c=a+b->a+b<=c-1:=za 0x915420a00e10504231820a0c4610c06 [a,b,c,d] []
theorem zDa:d<=c->a+(a+b)-1-c<=a+(a+b)-1-d:=za 0xd2105014ad44908280a56a010c06 [a,b,c,d] []
theorem zDb:¬c=a+b->¬(a+(b+1)<=c/\c<a+(b+1)+d)->¬(a+b<=c/\c<a+b+(d+1)):=za 0x748e81052891500208280218e348680a5122a00490d014010c638414108c6 [a,b,c,d] []
theorem zDc:¬d<a+(b+c)->a+(b+c)+(d-(a+(b+c)))=d:=za 0xc41a0283a8834052823883405123a00c6 [a,b,c,d] []
theorem zth:¬d<a+(b+c)->a+(b+c)<=d:=za 0xc41a02803883405123a00c6 [a,b,c,d] []
theorem zxc:a+(b+c)+d-(a+(b+c))=d:=za 0xc41a028310680a52a2 [a,b,c,d] []
theorem zDd:a+b+(c+d)=a+(b+c)+d:=za 0xc41a029418a8105282 [a,b,c,d] []
theorem zxd:a+(b+c)<=a+(b+c)+d:=za 0x310680a5041a0280 [a,b,c,d] []
theorem zDe:a+b+c+e<=d->a+b+c<=d:=za 0x310414a006410414a5006 [a,b,c,d,e] []
theorem zxe:a+2*max b e+10<d->a+min b c<d:=za 0x6910700a50034800054881b800015814a5006 [a,b,c,d,e] []
theorem zDf:a+(b+d)+e<=c->¬(a+b<=c/\c<a+(b+d)+e):=za 0x720c340528915002082802184418680a5006 [a,b,c,d,e] []
theorem zDg:a+b+d<=e->c=e->a+b<=c:=za 0x2082802084620c20a5006 [a,b,c,d,e] []
theorem zDh:a-b+(c-d)<=a+c-e-1->a-b+(c-d)<=a+c-(e+1):=λh=>fE h (pF (Nat.sub_sub _ _ _))
theorem zDi:a-b+(c-d)<=e-max 0 (a+c)->a-b+(c-d)<=e-1:=have g {a b e:Nat}:a<=b->a<=e-max 0 b->a<=e-1:=lin (.i (.p v0 v1) (.i (.p v0 (.s v2 (.x n0 v1))) (.p v0 (.s v2 n1)))) [a,b,e] [];g (fDU (Nat.sub_le _ _) (Nat.sub_le _ _))
theorem zDj:a-b+(c-d)<=e->a-(b+1)+(c-d)<=e:=za 0x418aa90d015a008315420ad006 [a,b,c,d,e] []
theorem zDk:a-b+(c-d)<=e->a-b+(c-(d+1))<=e:=za 0x448e82a8415a008315420ad006 [a,b,c,d,e] []
theorem zDl:a-b+(c-d)<=e->a-b+(c-d)<=e:=za 0x1062a8415a008315420ad006 [a,b,c,d,e] []
theorem zDm:a<=b\/c<=d->a<=b\/c<=d+e:=za 0x41d0400800518801000a6 [a,b,c,d,e] []
theorem zDn:a+b<=c+d-e-1->a+b<=c+d-(e+1):=za 0x249418a950828049062a56a105006 [a,b,c,d,e] []
theorem zDo:a+e<=d->b<e->a+(b-c)<d:=za 0x34883505280224340186405006 [a,b,c,d,e] []
theorem zDp:a+e<=d->¬c>=e-b->a+(b+c)<d:=za 0xd220d014a00e2092a03186405006 [a,b,c,d,e] []
theorem zDq:1<=d+e->a+b<=c-max 0 (d+e)->a+b<=c-1:=za 0x915420a0083a22e2a841401883a2406 [a,b,c,d,e] []
theorem zDr:1<=d->a+b+d<=e->c=e->a+b<c:=za 0x921052802084620c20a50061a406 [a,b,c,d,e] []
theorem zxf:1<=e->a<b+(c+d)+e->a-(b+(c+d))<e:=za 0x1123150340568020c540d2890500622406 [a,b,c,d,e] []
theorem zDs:a<b+(c+1)->b+d<e/\e<=b+c->a-1<b+c:=za 0x20d1290568010684011230d28021922a068905006 [a,b,c,d,e] []
theorem zDt:a=0->a<=b-(c+(d+e)):=za 0x41d0540d40040046 [a,b,c,d,e] []
theorem zDu:a<=b->c+d<a/\a<=c+e->b=c+d->False:=za 0x718a8111882a000048c54a008608006 [a,b,c,d,e] []
theorem zDv:a<=b->b<c+(d+1)->c+e<a/\a<=c+d->¬(c+e<b/\b<=c+d)->False:=za 0x738c540802920a94010c618a80001241528021923a0a890d00608006 [a,b,c,d,e] []
theorem zDw:a<=b->b<c+(d+1)->a=c+e->¬b=c+e->¬(c+e<b/\b<=c+d)->False:=za 0x738c540802920a94010c639054088c620a8011923a0a890d00608006 [a,b,c,d,e] []
theorem zDx:a<=b->¬(c+d<a/\a<=c+e)->c+d<b/\b<=c+e->a<=b-1:=za 0x243500082a040148c54a0086390540000918a94010c608006 [a,b,c,d,e] []
theorem zxg:c<a+b->¬(a+b<=c/\c<a+(b+d)+e):=za 0x1c830d014a245400820a00860828915006 [a,b,c,d,e] []
theorem zDy:c=d->a<=d->b=e->c<=e->a<=b:=za 0x40020806204461800618846 [a,b,c,d,e] []
theorem zDz:c<=a->a<=b->b<c+min (max d 1) e->d=0->a=b:=za 0x40240c4622477c0a890d0060800600806 [a,b,c,d,e] []
theorem zDA:d<e->a+(b+c)+d<a+(b+c)+e:=za 0x1041a029448c41a0294a00891d006 [a,b,c,d,e] []
theorem zDB:d<=a->a<b+(c+1)->d=b+e->¬a=b+e->a-1<b+c:=za 0x20d1290568039034008c62068311922a06890500600c06 [a,b,c,d,e] []
theorem zDC:d<=b->c<=e->a<d\/e<=a->a<b\/c<=a:=za 0x400a4140140400d20a00a62080608c06 [a,b,c,d,e] []
theorem zDD:d<=e->a+(b+c)+d<=a+(b+c)+e:=za 0x1041a0294188340528020c06 [a,b,c,d,e] []
theorem zDE:¬a<b+(c+d)+e->a=b+(c+d)+e+(a-(b+c+(d+e))):=za 0x41d041a501520c540d294008e418a81a5120a00c6 [a,b,c,d,e] []
theorem zDF:¬b<c+(d+e)+a->a<=b-(c+(d+e)):=za 0x107415035000e020e82a5121a00c6 [a,b,c,d,e] []
theorem zDG:¬c<a+(b+d)+e->¬(a+b<=c/\c<a+(b+d)+e):=za 0x720c34052891500208280218e418680a5122a00c6 [a,b,c,d,e] []
theorem zDH:¬c<a+b->c<a+(b+d)+e->a+b<=c/\c<a+(b+d)+e:=za 0x1061a029448a8010414010830d014a2454018e105122a00c6 [a,b,c,d,e] []
theorem zDI:¬d<a+(b+c)+e->a+(b+c)+(d-(a+(b+c)))=d:=za 0x310680a0ea20d014a08e410680a5123a00c6 [a,b,c,d,e] []
theorem zDJ:¬d<a+(b+c)+e->a+(b+c)<=d:=za 0x310680a00e410680a5123a00c6 [a,b,c,d,e] []
theorem zxh:¬e<a+(b+c)+d->a+(b+c)+d<=e:=za 0x10620d014a00e310680a5124a00c6 [a,b,c,d,e] []
theorem zDK:a-b+(c-d)<=e-(f+1)->a-b+(c-d)<=e-1:=have g {a e f:Nat}:a<=e-(f+1)->a<=e-1:=lin (.i (.p v0 (.s v1 (.a v2 n1))) (.p v0 (.s v1 n1))) [a,e,f] [];g
theorem zDL:a-b+(c-d)<=f->a-b+(c-(d+1+e))<=f:=za 0x14891d282a8415a00a315420ad006 [a,b,c,d,e,f] []
theorem zDM:a-b+(d-e)<=f->a-(b+c)+(d-e)<=f:=za 0x520ea20d015a00a41d420ad006 [a,b,c,d,e,f] []
theorem zDN:c-d+(e-f)<=b-(a+1)->d+1<c->a+1<=b:=za 0x520a004948e9401920a06a525462ad006 [a,b,c,d,e,f] []
theorem zDO:d<=b\/c<=e->e<=a->a<=f->f<d->a<b\/c<=a:=za 0x400a414014692d006280060100620801180a6 [a,b,c,d,e,f] []
theorem zDP:d<=b\/c<=e->e<=f->f<=a->a<d->a<b\/c<=a:=za 0x400a4140146905006014062900620801180a6 [a,b,c,d,e,f] []
theorem zDQ:e<=c\/d<=a->a+b+f<=e->a+b<=c\/d<=a:=za 0x180410500521420a500600c02200a6 [a,b,c,d,e,f] []
theorem zDR:b+1<a->a-b+(c-d)<=e-f->a-(b+1)+(c-d)<=e-(f+1):=have g {a b c e f:Nat}:b+1<a->a-b+c<=e-f->a-(b+1)+c<=e-(f+1):=lin (.i (.p (.a (.a v1 n1) n1) v0) (.i (.p (.a (.s v0 v1) v2) (.s v3 v4)) (.p (.a (.s v0 (.a v1 n1)) v2) (.s v3 (.a v4 n1))))) [a,b,c,e,f] [];g
theorem zDS:a<=f->f<b+(c+d)+e->a<b+(c+d)+e:=za 0x1062a06944828020c540d2892d00628006 [a,b,c,d,e,f] []
theorem zDT:c=d->a+(b+e)+f<=d->min (a+b) c=a+b:=za 0x41410414c086520680a500618846 [a,b,c,d,e,f] []
theorem zDU:d<c->a-b+(c-d)<=e-f->a-b+(c-(d+1))<=e-(f+1):=have g {a c d e f:Nat}:d<c->a+(c-d)<=e-f->a+(c-(d+1))<=e-(f+1):=lin (.i (.p (.a v2 n1) v1) (.i (.p (.a v0 (.s v1 v2)) (.s v3 v4)) (.p (.a v0 (.s v1 (.a v2 n1))) (.s v3 (.a v4 n1))))) [a,c,d,e,f] [];g
theorem zxi:d=e->a+(b+c)+f<=e->a+(b+c)<=d:=za 0x310680a008510680a500620c46 [a,b,c,d,e,f] []
theorem zDV:d=e->1<=b+c->a+(b+c)+f<=e->a+b+c-1<d:=za 0xd2910414a568021441a029401841a240620c46 [a,b,c,d,e,f] []
theorem zDW:e=f->a+(b+c)+d<=f->a+(b+c)+d<=e:=za 0x10620d014a00a310680a500629046 [a,b,c,d,e,f] []
theorem zDX:e<=d->a+b+c+f<=e->a+b+c<=d:=za 0x310414a008510414a500619006 [a,b,c,d,e,f] []
theorem zDY:e<=f->c<a\/a+(b+d)+f<=c->¬(a+b<=c/\c<a+(b+d)+e):=za 0x1c830d014a245400820a008611461a029400122a00a629006 [a,b,c,d,e,f] []
theorem zxj:f<=e->d<f->a+(b+c)+d<a+(b+c)+e:=za 0x1041a029448c41a0294a00a91d00621406 [a,b,c,d,e,f] []
theorem zti:¬e=0->d=f+e->a<b+(c+f)+e->a-(b+c)<d:=za 0x34883405680214540d2890500621683118e8208c6 [a,b,c,d,e,f] []
theorem zDZ:b=d+e->a=f+g->¬c<f+(g+d)+e->a+b<=c:=za 0x820a00e419a85a5122a00c63168011883a0446 [a,b,c,d,e,f,g] []
theorem zD0:e=f->a+(b+c)+g<=f->d<=g->a+b+0+(c+d)<=e:=za 0x418a8808294a00c3018a610680a500629046 [a,b,c,d,e,f,g] []
theorem zxk:e=f->a+(b+c)+g<=f->d<=g->a+(b+c)+d<=e:=za 0x10620d014a00c3018a610680a500629046 [a,b,c,d,e,f,g] []
theorem zD1:¬d=0->c=e+d->b=f+g->a<f+(g+e)+d->a-b<c:=za 0x248415a0064350b4a2414018c5a044619282118e8188c6 [a,b,c,d,e,f,g] []
theorem zxl:¬e=0->d=f+e->a<=g->g<b+(c+f)+e->a-(b+c)<d:=za 0x34883405680214540d289350063000621683118e8208c6 [a,b,c,d,e,f,g] []
end
section
open La
variable{a b c d e f g i j k m o:Nat}{u v w x y z s t r:Int}
theorem zD2:u<=v->v<=u->u=v:=za 0x4030042608026 [] [u,v]
theorem zxm:u<=v->¬v=u->u<v:=za 0x520a04e008cc608026 [] [u,v]
theorem zD3:v<=u->¬v<u->u=v:=za 0x40338121a04c600426 [] [u,v]
theorem zD4:u<=min v w->u<=v:=za 0x100441c0026 [] [u,v,w]
theorem zD5:u<=min w v->u<=v:=za 0x100422c0026 [] [u,v,w]
theorem zD6:u<=v+w->u>v+w->False:=za 0x1c091069409841a0026 [] [u,v,w]
theorem zxn:u<=w->w<v->u<=v:=za 0x1004291502610026 [] [u,v,w]
theorem zD7:u<=w->w<=v->u<=v:=za 0x4010882610026 [] [u,v,w]
theorem zD8:w<v->u<w->u<v:=za 0x148281124140982915026 [] [u,v,w]
theorem zxo:w<v->u=w->u<v:=za 0x520a04401982915026 [] [u,v,w]
theorem zD9:w<v->v<=w->u<=v:=za 0x1004410982915026 [] [u,v,w]
theorem zEa:w<v->w=u->u<v:=za 0x520a04021982915026 [] [u,v,w]
theorem zEb:w<v->¬w<u->u<v:=za 0x520a04e048a813182915026 [] [u,v,w]
theorem zEc:w=u->w<v->u<v:=za 0x520a04291502600866 [] [u,v,w]
theorem zEd:¬u>v+w->u<=v+w:=za 0x834004e048834a04c6 [] [u,v,w]
theorem zEe:¬v<=w->u<=w->u<=v:=za 0x100440098e2084c6 [] [u,v,w]
theorem zEf:0<=w->x>u+w->x<=v->u<v:=za 0x14828108c261a440a502612026 [] [u,v,w,x]
theorem zEg:u=w->w<v/\v<=w+x->u<v:=za 0x14828118a8108522a048610066 [] [u,v,w,x]
theorem zEh:u>v+w->x<=v+w->u<=x->False:=za 0x1c6009841a0c2602441a5026 [] [u,v,w,x]
theorem zEi:u<=x+w->x<=v->u<=v+w:=za 0x8340042309843a0026 [] [u,v,w,x]
theorem zEj:u<=w->w<v/\v<=w+x->u<v:=za 0x14828118a8108522a048610026 [] [u,v,w,x]
theorem zEk:u<=x->x+v<w->u+v<w:=za 0x9210528112423a502618026 [] [u,v,w,x]
theorem zEl:v=x->x<u/\u<=x+w->u<=v+w:=za 0x20d00110e8008123a048618466 [] [u,v,w,x]
theorem zEm:x=v->u<=x+w->u<=v+w:=za 0x83400443a002608c66 [] [u,v,w,x]
theorem zEn:x>u+v->x<=w->u+v<w:=za 0x9210528110c261a420a5026 [] [u,v,w,x]
theorem zEo:¬v<x->x<u/\u<=x+w->u<=v+w:=za 0x20d00110e8008123a048638d21a04c6 [] [u,v,w,x]
theorem zEp:a<b+1->a>=b->a=b:=za 0x402004064868905006 [a,b] []
theorem ztj:a<=b-1->0<b->a+1<=b:=za 0x1482800a51401921a8006 [a,b] []
theorem zEq:a<=b->a<b+1:=za 0x24344828008006 [a,b] []
theorem zEr:a<b->a+1<=b+c:=za 0x20d120a002905006 [a,b,c] []
theorem zEs:b<c+1->a+b<=a+c:=za 0x8140828048a890d006 [a,b,c] []
theorem zEt:c<=b->a<c->a<b:=za 0x520a00490500608806 [a,b,c] []
theorem zxp:c<=b->a<c->a<=b:=za 0x1000490500608806 [a,b,c] []
theorem zEu:d<=c->b<d->a+b<a+c:=za 0x81448414a00690d00610c06 [a,b,c,d] []
theorem zEv:a+d<=c->e<=d->b<e->a+b<c:=za 0x9210528022434018640184305006 [a,b,c,d,e] []
theorem zxq:a-e<=c-d->e<=b->a-(b+1)<=c-(d+1):=za 0x247415521a02a00900618aa405406 [a,b,c,d,e] []
theorem zxr:e-b<=c-d->a<e->a-b<=c-(d+1):=za 0x247415420a80890500618aa125406 [a,b,c,d,e] []
theorem zEw:a+d<=c->e<d->f<=e->b<f->a+b<c:=za 0x248414a00a90d006214061a4940184305006 [a,b,c,d,e,f] []
theorem zxy:b-c<=a->c+min a (b-c)<=d->¬d<b:=za 0x1c291d0061883506054018020d406 [a,b,c,d] []
theorem zxz:b+1<=a->¬d<b+1-min a (b+1):=za 0x748680c2434aa454018090d006 [a,b,d] []
theorem zxs:u<v->u=v->False:=za 0x1c201982905026 [] [u,v]
theorem zxt:0<=u->u<(a:Int)->u.toNat<a:=za 0x48774003290d0260a026 [a] [u]
theorem zEx:c+1=a->v=(c:Int)-(d:Int)->u<=1+v->b=d->u<=(a:Int)-(b:Int):=za 0x720cd481184462a68409879166a51980915046 [a,b,c,d] [u,v]
theorem zEy:b<=a/\c<=d->0<=u/\u<(b:Int)->0<=u/\u<(a:Int):=za 0xca494091012072925024404861880008086 [a,b,c,d] [u]
theorem zEz:b<=c/\d<=a->0<=u/\u<(d:Int)->0<=u/\u<(a:Int):=za 0xca4940910120f29250244048600c0208086 [a,b,c,d] [u]
theorem zEA:c+1=a->b=d+e->u<=v->v=(f:Int)-(e:Int)->f+d=c+1->u<=(a:Int)-(b:Int):=za 0x720cd4c148a832d046264b9a9c663982620e811180915046 [a,b,c,d,e,f] [u,v]
theorem zEB:((a:Int)+1).toNat=a+1:=za 0x905120cd362 [a] []
theorem zEC:¬a+1=0:=za 0x1d0905046 [a] []
theorem zq7:a+1=b->a<b:=za 0x520a002905046 [a,b] []
theorem zED:0=a->b=0->0=(a:Int)-(b:Int):=za 0x720cd5034044602046 [a,b] []
theorem zEE:a=b->a=max 0 b:=za 0x145c0208046 [a,b] []
theorem zEF:c+1=b->(a:Int)=(c:Int)-u->(a:Int)=(b:Int)-(1+u):=za 0xd340e6a0c8c62cd4191982915046 [a,b,c] [u]
theorem zEG:c+1=a->v=(c:Int)-(d:Int)->d<=b->u=1+v->(a:Int)-(b:Int)<=u:=za 0x1039066a12a6841982301879166a51980915046 [a,b,c,d] [u,v]
theorem zEH:c+1=a->v=u->v=(d:Int)-(e:Int)->d+f=c+1->f+e<=b->(a:Int)-(b:Int)<=u:=za 0x1839066a1090b401922a1474118991e6a7198c71980915046 [a,b,c,d,e,f] [u,v]
theorem zxu:a+b=c->a+1+b=c+1:=za 0x24540a414a084105046 [a,b,c] []
theorem zxv:a+b=c->a+(b+1)=c+1:=za 0x245448680a084105046 [a,b,c] []
theorem zxw:c+1=b->a<c+1->a<b:=za 0x520a0122a24140182915046 [a,b,c] []
theorem zEI:a<=c->a<=max b c:=za 0x20dc0010006 [a,b,c] []
theorem zEJ:a+(b+c)=b+(a+c):=za 0x8140d041a0282 [a,b,c] []
theorem zEK:(a:Int)=(c:Int)-u->u=(c:Int)-(b:Int)->a=b:=za 0x4020e459a8c6618b3506466 [a,b,c] [u]
theorem zEL:d+1=c->e+a=d+1->(b:Int)=(e:Int)-v->v=u->((a+b:Nat):Int)=(c:Int)-u:=za 0x1459a8414c8ca6198c4cd43919923a0094118491d046 [a,b,c,d,e] [u,v]
theorem zxx:c+1=b->a+d=c+1->0<d->a<b:=za 0x1482801a51401922a0c141182915046 [a,b,c,d] []
theorem zEM:c+1=b->a=d->d<=c->a<=b:=za 0x100043018601182915046 [a,b,c,d] []
theorem zEN:a=d->b+c<=d->a=max (b+c) d:=za 0x310697008620d00618046 [a,b,c,d] []
theorem zEO:b=c->d<=a+c->a+b=max (a+c) d:=za 0xc40a5c20a0840a0c0610446 [a,b,c,d] []
theorem zEP:b<=c->a+b<=max (a+c) d:=za 0x3102970828010406 [a,b,c,d] []
theorem zEQ:d=b->d+a=c->a+b=c:=za 0x820a08401d04608c46 [a,b,c,d] []
theorem zER:e+b=d->a+c=e->a+(b+c)=d:=za 0xc41a0282208141186125046 [a,b,c,d,e] []
theorem zES:d=a->d=b+e->e<=c->a<=b+c:=za 0x8340004401881a0c4600c46 [a,b,c,d,e] []
theorem zET:c+1=b->a=d+e->f+d=c+1->e<=f->a<=b:=za 0x4002900648a832d04620e801182915046 [a,b,c,d,e,f] []
theorem zEU:0<=u->u<2->u=0\/u=1:=za 0x900d00195490502602026 [] [u]
theorem zEV:8*a<=512->0+8*a<=512:=za 0x10048000011645000040120000045806 [a] []
theorem zEW:a<=1000->0+6*a<=6000:=za 0x5dc24000006b2280003e890006 [a] []
theorem zEX:a+3000<b->a+1+1+2000<b:=za 0x5200fa124a414a52800a402ee240a5006 [a,b] []
theorem zEY:a<=20+8*b->b<=600->a+3000<9900:=za 0x9ab24900bb89029400012c482030400022c000292a0006 [a,b] []
theorem zEZ:a+6*(c+1)<=6000->b<=6->a+b+6*c<=6000:=za 0x2ee121000035820a500e080c02ee1248a80000d605006 [a,b,c] []
theorem zE0:a+6*(c+1)<=6000->b<=6->a+b<=1000000:=za 0x3d0902410500e080c02ee1248a80000d605006 [a,b,c] []
theorem zE1:c+4096*(b+1)<=20480->a<=c+4096->a+4096*b<=20480:=za 0xa001208080058140008004854000c0a0012486802001615006 [a,b,c] []
theorem zE2:c<=8->a+8*(d+1)<=512->b<=c->a+b<=1000000:=za 0x3d09024105002080c00401248e80001160500680806 [a,b,c,d] []
theorem zE3:d=b->a<d->a<b+c:=za 0x20d120a00690500608c46 [a,b,c,d] []
theorem zE4:d<=8->a+8*(c+1)<=512->b<=d->a+b+8*c<=512:=za 0x40121000045820a5003080c00401248a80001160500680c06 [a,b,c,d] []
theorem zuq : -1000000000<=(a:Int):=za 0xc80000001dcd65004f41 [a] []
theorem zur:a+(b+1)=c->a+1+b=c:=za 0x829052821243405046 [a,b,c] []
theorem zus:a+4096*(b+1)<=20480->a+4096<=90000:=za 0x57e42402001205000a0012486802001605006 [a,b] []
theorem zut:a+1*(b+1)<=c->a+1+1*b<=c:=za 0x2080000d920a5002486800003605006 [a,b,c] []
theorem zuu:a+1*(b+1)<=c->a+1*b<=c:=za 0x8200003605002486800003605006 [a,b,c] []
theorem zuv:b<=100000->a+1*(c+1)<=b->a+1<=1000000:=za 0x3d0902490500148a800003605006186a090406 [a,b,c] []
theorem zuw:c<=90000->a+(d+b)<=c->a+b<=100000:=za 0x30d41208280104740500615f9090806 [a,b,c,d] []
theorem zux:a+(c+e)<=d->b<=e->a+b+c<=d:=za 0xc4105280204061905405006 [a,b,c,d,e] []
end
section
open La
variable{a b c d e f g i j k m o:Nat}{u v w x y z s t r:Int}
theorem zuy:0<=u->u<100000000->1<=1+u/\1+u<=100000000:=za 0xbebc20130268102689090000000017d78402690502602026 [] [u]
theorem zuz:0<=u->¬u<0:=za 0x1d090502602026 [] [u]
theorem zrA:0<=u->¬u=-1:=za 0xe9d006602026 [] [u]
theorem zuA:1<=u->-1000000000<=u:=za 0x1dcd65004f4102426 [] [u]
theorem zuB:1<=u->u≠0:=za 0x74006602426 [] [u]
theorem zuC:u<=100000000->u<=1000000000:=za 0x1dcd65004c01000000005f5e10098026 [] [u]
theorem zuD:¬u+1=u:=za 0x1c0905066 [] [u]
theorem zuE:u.toNat<=v.toNat/\u≠v->0<=v->u<v:=za 0x1482810a0263840330760d8086 [] [u,v]
theorem zuF:v<=10000->u<v->u<32768:=za 0x40004920a0429050260271090426 [] [u,v]
theorem zuG:v<=10000->u<v->u<=9999:=za 0x4e1f200429050260271090426 [] [u,v]
theorem zuH:v<=100000000->u<=7*v->u<=1000000000:=za 0x3b9aca009802100007b0026000000005f5e10098426 [] [u,v]
theorem zuI:u.toNat<=v.toNat/\u≠v->0<=v/\v<w->u<v:=za 0x520a04490d021404863840330760d8086 [] [u,v,w]
theorem zuJ:u+(v+w)=v+(u+w):=za 0x8140d041a0283 [] [u,v,w]
theorem zuK:w=u->w<x->v=x->u<v:=za 0x520a0461198691502600866 [] [u,v,w,x]
theorem zuL:x=v->y<=x+w->u=y->u<=v+w:=za 0x8340048019843a102608c66 [] [u,v,w,x,y]
theorem zrB:((u.toNat:Nat):Int)=u->u<(a:Int)->u.toNat<a:=za 0x121dd000ca43409821de466 [a] [u]
theorem zuM:0<=u->¬u=(a:Int)->¬u.toNat=a:=za 0x70076231c1908cc60a026 [a] [u]
theorem zuN:u=(a:Int)+1->u.toNat=a+1:=za 0x90503b12419a0466 [a] [u]
theorem zuO:u=(a:Int)+1->¬u.toNat=a:=za 0x70076232419a0466 [a] [u]
theorem zuP:u=(a:Int)->u.toNat=a:=za 0xec40c8466 [a] [u]
theorem zuQ:¬u=(a:Int)+1->¬u.toNat=a+1:=za 0x748281d88c74833408cc6 [a] [u]
theorem zuR:0<=u->u<(b:Int)->b=c+2+d/\a=c+2+d->0<=u/\u<(a:Int):=za 0xca4940910120d42a50021a854a0444307292502622026 [a,b,c,d] [u]
theorem zuS:0<a->a=a-1+1:=za 0x9482b40080945006 [a] []
theorem zrC:a<10->a<32:=za 0x104920a000002a4905006 [a] []
theorem zuT:a<10->a<=9:=za 0x110000002a4905006 [a] []
theorem zuU:a<32->3+a<31+15:=za 0x7c80007e5448174a00000824905006 [a] []
theorem zuV:a<32->a<=31:=za 0x3f2000000824905006 [a] []
theorem zrD:a<400->a<420:=za 0xd24920a00006424905006 [a] []
theorem zuW:a<420->a+1<580:=za 0x48924a414a00006924905006 [a] []
theorem ziC:a<420->a+1<590:=za 0x49d24a414a00006924905006 [a] []
theorem zuX:a<420->a<430:=za 0xd74920a00006924905006 [a] []
theorem zo4:a<430->a+1<500:=za 0x3e924a414a00006ba4905006 [a] []
theorem zrE:a<430->a+1<550:=za 0x44d24a414a00006ba4905006 [a] []
theorem zkZ:a<430->a+1<560:=za 0x46124a414a00006ba4905006 [a] []
theorem zuY:a<430->a+1<580:=za 0x48924a414a00006ba4905006 [a] []
theorem ziD:a<430->a+1<590:=za 0x49d24a414a00006ba4905006 [a] []
theorem zuZ:a<8->a<=31:=za 0x3f20020905006 [a] []
theorem zu0:a<8->a<=7:=za 0xf0020905006 [a] []
theorem zrF:a<=3->1<=a->a=1\/a=2\/a=3:=za 0x2c0250045480450240658006 [a] []
theorem zu1:a<=7->a<10:=za 0x1524828078006 [a] []
theorem zu2:a<=8->a+0<=31:=za 0x3f24028080006 [a] []
theorem zu3:a+9-a<=9:=za 0x4411052a0 [a] []
theorem zu4:(a:Int).toNat=a:=za 0x6762 [a] []
theorem zu5:a-0<=a:=za 0x402a0 [a] []
theorem zu6:a-a<=9:=za 0x11002a0 [a] []
theorem zu7:min a b=1->a=1/\1<=b\/b=1/\1<=a:=za 0x4812111029024022152106046 [a,b] []
theorem zu8:a+(b+1)<=8->a+1+b<=8:=za 0x4029052808243405006 [a,b] []
theorem zu9:a+(b+1)<=8->a<=8:=za 0x40008243405006 [a,b] []
theorem zrG:a+1<=b->a<b:=za 0x520a002905006 [a,b] []
theorem zva:b+1<a->a=a-1+1:=za 0x2520ad00202521a5006 [a,b] []
theorem zvb:b+1<=a->0<a:=za 0x128a00090d006 [a,b] []
theorem zvc:b-a=0->a<=b->a=b:=za 0x100820019000d446 [a,b] []
theorem zvd:a<b->b<=8->min a b<8:=za 0x1048418a02010182905006 [a,b] []
theorem zve:a<b->b<=8->min a b<=7:=za 0x3c20c02010182905006 [a,b] []
theorem zvf:a<b->b<=a->False:=za 0x1c010182905006 [a,b] []
theorem zrH:a<b->(a:Int)<(b:Int):=za 0x1ca419a042905006 [a,b] []
theorem zvg:a=b+1->a-1=b:=za 0x520a8921a0046 [a,b] []
theorem zvh:a=b+1->0<a:=za 0x128a0121a0046 [a,b] []
theorem zvi:a<=8->b=a->10<=b->False:=za 0x708000548060044680006 [a,b] []
theorem zvj:a<=8->a-b+min b a<=1000000:=za 0x1e84812007010568080006 [a,b] []
theorem zvk:a<=b->b-a<=0->a=b:=za 0x1009000d40608006 [a,b] []
theorem zvl:a<=b->¬a<b->a=b:=za 0x40238520a00c608006 [a,b] []
theorem zvm:b<10->a<=340->a+b<10*(31+15):=za 0xf90000fca800015648414a0000552400180002a490d006 [a,b] []
theorem zvn:b<8->(7=7->b<=7->a<=100)->a<10*(7+15):=za 0x3e4fa000055920a00001924003c2033de231a090d006 [a,b] []
theorem zvo:b<=a->¬(a:Int)<(b:Int):=za 0x70e520cd02600406 [a,b] []
theorem zvp:¬a=b->¬a=b+1->¬a<b->a-b=a-b-2+2:=za 0xa50415ad020a88e148280318e90d002318e1008c6 [a,b] []
theorem zvq:¬b<a->b≠a->a<b:=za 0x520a00e0088c638121a00c6 [a,b] []
theorem zvr:a+(b+1+1)=a+2+b/\a+(b+1+1)=a+2+b:=za 0x540a51290d280a082a052894869405044 [a,b] []
theorem zvs:min a b+(b-a+1)=b+1:=za 0x90d1200d68106282 [a,b] []
theorem zvt:a+(b+1)=a+1+b:=za 0x520a5121a0282 [a,b] []
theorem zvu:c+1<=b->a<c+1->a<b:=za 0x520a0122a24140182915006 [a,b,c] []
theorem zvv:c+1<=b->a<c->a<b:=za 0x148280124140182915006 [a,b,c] []
theorem zvw:0<b->a<=c->a+1<=b+c:=za 0x20d120a00400182945006 [a,b,c] []
theorem zvx:a<min b c->a<b:=za 0x1482801070905006 [a,b,c] []
theorem zvy:a<c->c=b->a<b:=za 0x520a00221184905006 [a,b,c] []
theorem zvz:a<=10*3->b<=10*c->c<=7->a+b<=100:=za 0x324820a01e20184000156080cb0000ab0006 [a,b,c] []
theorem zvA:a<=c->b=c->a<=b:=za 0x4001044610006 [a,b,c] []
theorem zvB:b<8->a+c=b->a<80:=za 0xa12482800881411a090d006 [a,b,c] []
theorem zvC:b<8->c+a=b->a<80:=za 0xa12482800805411a090d006 [a,b,c] []
theorem zvD:b<=8->c<=b->a=c->a<=16777216:=za 0x8000004c00100460880680406 [a,b,c] []
theorem zvE:b<=8->c<=b->a=c->a<=8:=za 0x4000100460880680406 [a,b,c] []
theorem zvF:c<b->¬c<a->a<b:=za 0x520a00e048a803182915006 [a,b,c] []
theorem zvH:c=a->b=31->c<=8->a+0<=b:=za 0x140280808060001f9044600846 [a,b,c] []
theorem zvI:c=a->b=7->c<=4->a+0<=b:=za 0x140280608067844600846 [a,b,c] []
theorem zvJ:c=a->c<=b->a<=b:=za 0x4000880600846 [a,b,c] []
theorem zvK:c<=31->a<=10*3->b<=10*c->a+b<=340:=za 0xaa4820a004000156080cb0000ab00060001f90806 [a,b,c] []
theorem zrI:c<=b->a+1<c->a+1<b:=za 0x5290528012520a500608806 [a,b,c] []
theorem zvL:c<=b->a+1<c->a<b:=za 0x14828012520a500608806 [a,b,c] []
theorem zvM:c=a+2+d/\b=a+2+d->0<=(a:Int)+1/\(a:Int)+1<(b:Int):=za 0xe529066940a419a20241a814a04435029410886 [a,b,c,d] []
theorem zvN:c=a+2+d/\b=a+2+d->0<=(a:Int)/\(a:Int)<(b:Int):=za 0xe520cd020ca0241a814a04435029410886 [a,b,c,d] []
theorem zvO:b<8->c+d=b->a<=c+d->a<=992:=za 0x7c1200062a000608c5411a090d006 [a,b,c,d] []
theorem zvQ:b<=8->c<=b->d=c->a=d->a<=1000000:=za 0x7a12048001804610c460880680406 [a,b,c,d] []
theorem zvR:b<=8->c<=b->d=c->a=d->a<=16777216:=za 0x8000004c001804610c460880680406 [a,b,c,d] []
theorem zvS:b<=8->c<=b->d=c->a=d->a<=8:=za 0x40001804610c460880680406 [a,b,c,d] []
theorem zvT:c<=10*d->a-b<=9->a-b+1+c<=10*(d+1):=za 0x24740000ab09210569404420a80c30000ab0806 [a,b,c,d] []
theorem zvU:b<8->c+d=b->a<=e+f->e+f=c+d+1->a<=8:=za 0x400048c54a1494118a4a000608c5411a090d006 [a,b,c,d,e,f] []
theorem zvV:c<=d->d<=c->e<=f->f<=e->a+c=e->b+d=f->a=b:=za 0x40228c341188205046214062900610c0618806 [a,b,c,d,e,f] []
end
noncomputable def strT:List Str:=["bank","book","","span","rows","ticked","closed","entry","many","other","made","1","banks","Book","bark","boot","ook","matches","barred","group","days","scale","base","seen","step","old"]
noncomputable def kU:Nat:=26
noncomputable def zu(n:Nat):Str:=strT.getD n ""
theorem zjX:strT.Nodup:=by decide +kernel
theorem zqz:(strT.all λs=>PyData.strOk s)=true:=by decide +kernel
theorem zbe{n:Nat}(h:n<kU):strT[n]? = some (zu n):=by
 have h':n<strT.length:=h;unfold zu;rw[fQ,fJ h'];rfl
theorem kW{n m:Nat}(hn:n<kU)(hm:m<kU)(h:zu n=zu m):n=m:=by
 have h1:=zbe hn;have h2:=zbe hm;rw[<-h] at h2;exact(List.getElem?_inj (show n<strT.length from hn) zjX).mp (h1.trans h2.symm)
theorem zgB(b:Bool):b.toNat<kU:=by cases b<;>decide
theorem side_inj{a b:Bool}:zu a.toNat=zu b.toNat↔a=b:=by
 refine⟨λh=>?_,λh=>by rw[h]⟩;have h2:a.toNat=b.toNat:=kW (zgB a) (zgB b) h;cases a<;>cases b<;>first|rfl|cases h2
theorem zil{n:Nat}(h:n<kU):PyData.strOk (zu n)=true:=fAA.mp zqz _ (pT (zbe h))
inductive AV where
 | none
 | bool (b:Bool)
 | int (i:Int)
 | str (n:Nat)
 | tup (xs:List AV)
 | lst (xs:List AV)
 | ref (a:Addr)
 | rng (lo hi:Int)
 | exc (c:Addr)
inductive AO where
 | list (xs:List AV)
 | frz (xs:List AV)
 | tdict (kvs:List (List (Bool×Int)×AV))
 | inst (c:Addr) (d:Addr)
 | idict (fs:List (Nat×AV))
noncomputable abbrev zc:=Bool×Int
noncomputable def zT(m:zc):AV:=.tup [.str m.1.toNat,.int m.2]
noncomputable def mkH(w:World)(m:zc):Int:=reduceHash (Builtin.Tuple.tupleHashOf [hashStr w (zu m.1.toNat),hashInt m.2])
noncomputable abbrev zx(ms:List zc):AV:=.tup (ms.map zT)
noncomputable def zt9(w:World)(ms:List zc):Int:=reduceHash (Builtin.Tuple.tupleHashOf (ms.map (mkH w)))
noncomputable abbrev AHeap:=Addr->Option AO
noncomputable def AHeap.set(O:AHeap)(a:Addr)(o:AO):AHeap:=λb=>if b=a then some o else O b
noncomputable def zJ(vs:List Value)(n:Nat):Obj:={ cls:=.type "list",data:=.seq vs.toArray n }
noncomputable def zeq(lo hi:Int)(t u v:Tok):Obj:={ cls:=.type "range",data:=.fields #[.int lo t,.int hi u,.int 1 v] }
noncomputable def exO(c:Addr)(vs:Array Value):Obj:={ cls:=.ref c,dict:=none,data:=.fields vs,slots:=#[] }
mutual
inductive RepV(O:AHeap)(h:Heap):AV->Value->Prop
 | none:RepV O h .none .none
 | bool (b:Bool):RepV O h (.bool b) (.bool b)
 | int (i:Int) (t:Tok):RepV O h (.int i) (.int i t)
 | str {n:Nat} (hn:n<kU) (t:Tok):RepV O h (.str n) (.str (zu n) t)
 | tup {xs:List AV} {a:Addr} {vs:List Value}:xs.length<=1000000->IsTup h a vs.toArray->RepVs O h xs vs->RepV O h (.tup xs) (.ref a)
 | lst {xs:List AV} {a:Addr}:O a=some (.frz xs)->RepV O h (.lst xs) (.ref a)
 | ref (a:Addr):RepV O h (.ref a) (.ref a)
 | rng {lo hi:Int} {a:Addr} {t u v:Tok}:h.get? a=some (zeq lo hi t u v)->RepV O h (.rng lo hi) (.ref a)
 | exc {a c:Addr} {vs:Array Value}:h.get? a=some (exO c vs)->RepV O h (.exc c) (.ref a)
inductive RepVs(O:AHeap)(h:Heap):List AV->List Value->Prop
 | nil:RepVs O h [] []
 | cons {x:AV} {xs:List AV} {v:Value} {vs:List Value}:RepV O h x v->RepVs O h xs vs->RepVs O h (x::xs) (v::vs)
end
theorem RepV.wC{O:AHeap}{h:Heap}{i:Int}{v:Value}(r:RepV O h (.int i) v):∃t,v = .int i t:=by cases r;exact⟨_,rfl⟩
theorem RepV.wO{O:AHeap}{h:Heap}{b:Bool}{v:Value}(r:RepV O h (.bool b) v):v = .bool b:=by cases r;rfl
theorem RepV.wK{O:AHeap}{h:Heap}{v:Value}(r:RepV O h .none v):v = .none:=by cases r;rfl
theorem RepV.wM{O:AHeap}{h:Heap}{a:Addr}{v:Value}(r:RepV O h (.ref a) v):v = .ref a:=by cases r;rfl
theorem RepV.wJ{O:AHeap}{h:Heap}{n:Nat}{v:Value}(r:RepV O h (.str n) v):∃t,v = .str (zu n) t/\n<kU:=by cases r with|str hn t=>exact zd t rfl hn
theorem RepV.wH{O:AHeap}{h:Heap}{xs:List AV}{v:Value}(r:RepV O h (.tup xs) v):∃a vs,v = .ref a/\xs.length<=1000000/\IsTup h a (List.toArray vs)/\RepVs O h xs vs:=by cases r with|tup hl ht rs=>exact zn _ _ rfl hl ht rs
theorem RepV.wQ{O:AHeap}{h:Heap}{xs:List AV}{v:Value}(r:RepV O h (.lst xs) v):∃a,v = .ref a/\O a=some (.frz xs):=by cases r with|lst e=>exact zd _ rfl e
theorem RepVs.wG{O:AHeap}{h:Heap}{vs:List Value}(r:RepVs O h [] vs):vs=[]:=by cases r;rfl
theorem RepVs.wF{O:AHeap}{h:Heap}{x:AV}{xs:List AV}{vs:List Value}(r:RepVs O h (x::xs) vs):∃u us,vs=u::us/\RepV O h x u/\RepVs O h xs us:=by cases r with|cons a r=>exact zI _ _ rfl a r
def qu(o:Obj):Prop:=(o.cls = .type "tuple"/\∃xs n,o.data = .seq xs n)\/(o.cls = .type "range"/\∃vs,o.data = .fields vs)\/∃c vs,o.cls = .ref c/\o.data = .fields vs
def zxC(o o':Obj):Prop:=o'=o\/∃c vs vs',o=exO c vs/\o'=exO c vs'
structure KeepV(O:AHeap)(h:Heap)(O':AHeap)(h':Heap):Prop where
 obj:∀b o,h.get? b=some o->qu o->∃o',h'.get? b=some o'/\zxC o o'
 frz:∀b xs,O b=some (.frz xs)->O' b=some (.frz xs)
theorem KeepV.mk'{O:AHeap}{h h':Heap}(k:∀b o,h.get? b=some o->qu o->h'.get? b=some o):KeepV O h O h':=⟨λb o e st=>(zd o (k b o e st) (.inl rfl)),λ_ _ e=>e⟩
theorem KeepV.ext{O:AHeap}{h h':Heap}(k:∀b o,h.get? b=some o->h'.get? b=some o):KeepV O h O h':=.mk' λb o e _=>k b o e
theorem KeepV.push{O:AHeap}{h:Heap}(o:Obj):KeepV O h O (h.push o):=.ext λ_ _ e=>Heap.get?_push_of_some _ e
theorem KeepV.tup{O O':AHeap}{h h':Heap}(k:KeepV O h O' h'){a:Addr}{vs:Array Value}(ht:IsTup h a vs):IsTup h' a vs:=by
 refine jp ht λo ho hc n hd=>?_;obtain⟨o',ho',e|⟨c,_,_,e,_⟩⟩:=k.obj _ _ ho (.inl (zr9 hc _ n hd))
 .subst e;exact qc _ ho' hc n hd
 .subst e;cases hc
theorem KeepV.rng{O O':AHeap}{h h':Heap}(k:KeepV O h O' h'){a:Addr}{lo hi:Int}{t u v:Tok}(ht:h.get? a=some (zeq lo hi t u v)):h'.get? a=some (zeq lo hi t u v):=by
 obtain⟨o',ho',e|⟨c,_,_,e,_⟩⟩:=k.obj _ _ ht (.inr (.inl (ztN rfl _ rfl)))
 .subst e;exact ho'
 .cases e
theorem RepV.mono{O O':AHeap}{h h':Heap}(k:KeepV O h O' h'){x:AV}{v:Value}(r:RepV O h x v):RepV O' h' x v:=by
 refine RepV.rec (motive_1:=λx v _=>RepV O' h' x v) (motive_2:=λxs vs _=>RepVs O' h' xs vs) .none .bool .int (λhn t=>.str hn t) ?_ ?_ .ref ?_ ?_ .nil ?_ r
 .intro xs a vs hl ht _ r;exact .tup hl (k.tup ht) r
 .intro xs a e;exact .lst (k.frz _ _ e)
 .intro lo hi a t u v ho;exact .rng (k.rng ho)
 .intro a c vs ho;obtain⟨o',ho',e|⟨c',_,vs',e,e'⟩⟩:=k.obj _ _ ho (.inr (.inr (zbw _ _ rfl rfl)))
  .subst e;exact .exc ho'
  .cases e;subst e';exact .exc ho'
 .intro x xs v vs _ _ a r;exact .cons a r
theorem RepVs.mono{O O':AHeap}{h h':Heap}(k:KeepV O h O' h'){xs:List AV}{vs:List Value}(r:RepVs O h xs vs):RepVs O' h' xs vs:=by
 induction xs generalizing vs with
 | nil=>obtain rfl:=RepVs.wG r;exact .nil
 | cons x xs ih=>cases r with|cons a r=>exact .cons (a.mono k) (ih r)
theorem RepVs.length{O:AHeap}{h:Heap}{xs:List AV}{vs:List Value}(r:RepVs O h xs vs):xs.length=vs.length:=by
 induction xs generalizing vs with
 | nil=>obtain rfl:=RepVs.wG r;rfl
 | cons x xs ih=>cases r with|cons a r=>rw[fH,fH,ih r]
theorem RepVs.append{O:AHeap}{h:Heap}{xs:List AV}{vs:List Value}{ys:List AV}{us:List Value}(q:RepVs O h xs vs)(r:RepVs O h ys us):RepVs O h (xs++ys) (vs++us):=by
 induction xs generalizing vs with
 | nil=>obtain rfl:=RepVs.wG q;exact r
 | cons x xs ih=>cases q with|cons a q=>exact .cons a (ih q)
theorem RepVs.get{O:AHeap}{h:Heap}{xs:List AV}{vs:List Value}(r:RepVs O h xs vs):∀{i:Nat} {x:AV},xs[i]? = some x->∃v,vs[i]? = some v/\RepV O h x v:=by
 induction xs generalizing vs with
 | nil=>intro i x e;cases e
 | cons y xs ih=>
  obtain⟨_,_,rfl,a,r⟩:=RepVs.wF r;intro i x e;cases i with
  | zero=>cases e;exact zd _ rfl a
  | succ i=>rw[fAX] at e;exact ih r e
theorem RepVs.take{O:AHeap}{h:Heap}{xs:List AV}{vs:List Value}(r:RepVs O h xs vs):∀n,RepVs O h (xs.take n) (vs.take n):=by
 induction xs generalizing vs with
 | nil=>intro n;obtain rfl:=RepVs.wG r;rw[List.take_nil,List.take_nil];exact .nil
 | cons y xs ih=>
  obtain⟨_,_,rfl,a,r⟩:=RepVs.wF r;intro n;cases n with
  | zero=>exact .nil
  | succ n=>exact .cons a (ih r n)
theorem RepVs.drop{O:AHeap}{h:Heap}{xs:List AV}{vs:List Value}(r:RepVs O h xs vs):∀n,RepVs O h (xs.drop n) (vs.drop n):=by
 induction xs generalizing vs with
 | nil=>intro n;obtain rfl:=RepVs.wG r;rw[List.drop_nil,List.drop_nil];exact .nil
 | cons y xs ih=>
  obtain⟨_,_,rfl,a,r⟩:=RepVs.wF r;intro n;cases n with
  | zero=>exact .cons a r
  | succ n=>exact ih r n
theorem RepVs.reverse{O:AHeap}{h:Heap}:∀{xs vs},RepVs O h xs vs->RepVs O h xs.reverse vs.reverse
 | _,_,.nil=>.nil
 | _,_,.cons a r=>by simp only[fDB];exact r.reverse.append (.cons a .nil)
structure Cx where
 prog:Hi
 w:World
 h₀:Heap
 os:OsState
 mg:Str->Option Value
 mb:Str->Option Value
 fr:List Addr
 top:Option Env
noncomputable def Cx.push(X:Cx)(L:Env):Cx:=⟨X.prog,X.w,X.h₀,X.os,X.mg,X.mb,L.locals::X.fr,some L⟩
noncomputable abbrev Cx.M(X:Cx):Model:=model X.prog X.w
structure Cx.Ok(X:Cx):Prop where
 g:X.h₀.Ns Hl X.mg
 b:X.h₀.Ns builtinsNs X.mb
 nolimit:X.h₀.NoLimit
inductive RepT(w:World)(O:AHeap)(h:Heap):List (List zc×AV)->List DictEntry->Prop
 | nil:RepT w O h [] []
 | cons {k:List zc} {x:AV} {r:List (List zc×AV)} {e:DictEntry} {es:List DictEntry}:RepV O h (zx k) e.key->RepV O h x e.val->e.hash=zt9 w k->RepT w O h r es->RepT w O h ((k,x)::r) (e::es)
theorem RepT.mono{w:World}{O O':AHeap}{h h':Heap}(k:KeepV O h O' h'){kvs:List (List zc×AV)}{es:List DictEntry}(r:RepT w O h kvs es):RepT w O' h' kvs es:=by
 induction r with
 | nil=>exact .nil
 | cons a b c _ ih=>exact .cons (a.mono k) (b.mono k) c ih
inductive SX(O:AHeap)(h:Heap):List (Str×Value)->List (Nat×AV)->Prop
 | nil:SX O h [] []
 | cons {k:Nat} {x:AV} {v:Value} {kvs:List (Str×Value)} {fs:List (Nat×AV)}:k<kU->RepV O h x v->SX O h kvs fs->SX O h ((zu k,v)::kvs) ((k,x)::fs)
theorem SX.mono{O O':AHeap}{h h':Heap}(k:KeepV O h O' h'){kvs:List (Str×Value)}{fs:List (Nat×AV)}(r:SX O h kvs fs):SX O' h' kvs fs:=by
 induction r with
 | nil=>exact .nil
 | cons hk a _ ih=>exact .cons hk (a.mono k) ih
noncomputable def RepA(X:Cx)(O:AHeap)(h:Heap)(a:Addr):AO->Prop
 | .list xs=>∃vs n,h.get? a=some (zJ vs n)/\RepVs O h xs vs/\xs.length<=1000000
 | .frz xs=>∃vs,h.IsList a vs.toArray/\RepVs O h xs vs/\xs.length<=1000000
 | .tdict kvs=>∃es n,h.get? a=some { cls:=.type "dict",data:=.dict es n }/\RepT X.w O h kvs es.toList/\(kvs.map (·.1)).Nodup/\kvs.length<=1000000/\(a==sysModules)=false
 | .inst c d=>h.get? a=some { cls:=.ref c,dict:=some d,data:=.plain }
 | .idict fs=>∃kvs,h.DictOf (strKind X.prog X.w) a kvs/\SX O h kvs fs/\fs.length<=100/\(a==sysModules)=false
theorem RepA.mono{X:Cx}{O O':AHeap}{h h':Heap}{a:Addr}{o:AO}(k:KeepV O h O' h')(e:∀o,h.get? a=some o->h'.get? a=some o)(r:RepA X O h a o):RepA X O' h' a o:=by
 cases o with
 | list xs=>refine zl r λvs n h1 h2 hl=>?_;exact⟨vs,n,e _ h1,h2.mono k,hl⟩
 | frz xs=>refine zj r λvs h8_1 h2 hl=>?_;refine zb h8_1 λo h1 h3=>?_;exact⟨vs,(zd o (e _ h1) h3),h2.mono k,hl⟩
 | tdict kvs=>refine zl r λes n h1 h2 h3=>?_;exact⟨es,n,e _ h1,h2.mono k,h3⟩
 | inst c d=>exact e _ r
 | idict fs=>refine zj r λkvs h10_1 h2 h3=>?_;refine jy h10_1 λo es ep h1 h4=>?_;exact zt kvs (zag o es ep (e _ h1) h4) (h2.mono k) h3
theorem RepA.some{X:Cx}{O:AHeap}{h:Heap}{a:Addr}{o:AO}(r:RepA X O h a o):∃ob,h.get? a=some ob/\¬qu ob:=by
 have no:∀{ob:Obj} {t:String},ob.cls = .type t->t≠"tuple"->t≠"range"->¬qu ob:=by
  rintro ob t hc h1 h2 (⟨h,_⟩|⟨h,_⟩|⟨c,vs,h,_⟩)
  .rw[hc] at h;cases h;exact h1 rfl
  .rw[hc] at h;cases h;exact h2 rfl
  .rw[hc] at h;cases h
 cases o with
 | list xs=>refine jq r λvs n h1 _=>?_;exact⟨_,h1,no (t:="list") rfl (by decide) (by decide)⟩
 | frz xs=>refine zb r λvs h12_1 _=>?_;refine zj h12_1 λo h1 hc _=>?_;exact⟨_,h1,no hc (by decide) (by decide)⟩
 | tdict kvs=>refine jq r λes n h1 _=>?_;exact⟨_,h1,no (t:="dict") rfl (by decide) (by decide)⟩
 | inst c d=>
  refine zd _ r ?_;rintro(⟨h,_⟩|⟨h,_⟩|⟨c,vs,_,h⟩)
  .cases h
  .cases h
  .cases h
 | idict fs=>refine zb r λkvs h14_1 _=>?_;refine jh h14_1 λo es ep h1 hx _=>?_;exact zd _ h1 (no (t:="dict") hx.1 (by decide) (by decide))
noncomputable def AO.ro:AO->Bool
 | .frz _=>true
 | _=>false
def IsD(h:Heap)(b:Addr):Prop:=∃o es n,h.get? b=some o/\o.data = .dict es n
structure At(X:Cx)(O:AHeap)(s:Shared):Prop where
 keep:∀b o,X.h₀.get? b=some o->s.heap.get? b=some o
 rep:∀a o,O a=some o->RepA X O s.heap a o
 own:∀a o,O a=some o->o.ro=false->X.h₀.get? a=none
 gens:s.gens = #[]
 os:s.os=X.os
 ff:∀L∈X.fr,O L=none/\IsD s.heap L
theorem At.lt{X:Cx}{O:AHeap}{s:Shared}(a:At X O s){b:Addr}{o:AO}(e:O b=some o):b<s.heap.objs.size:=
 let ⟨_,h,_⟩:=(a.rep b o e).some;Heap.lt_size h
theorem At.none_of_size{X:Cx}{O:AHeap}{s:Shared}(a:At X O s){b:Addr}(e:s.heap.objs.size<=b):O b=none:=by
 cases h:O b with
 | none=>rfl
 | some o=>exact absurd (a.lt h) (pE.mpr e)
theorem At.stays{X:Cx}{O:AHeap}{s:Shared}(a:At X O s){b:Addr}{o:Obj}(e:s.heap.get? b=some o)(h:qu o):O b=none:=by
 cases hs:O b with
 | none=>rfl
 | some ao=>
  refine zb ((a.rep b ao hs).some) λob h1 h2=>?_;rw[e] at h1;obtain rfl:=Hx h1;exact absurd h h2
structure Step(B:Addr->Prop)(O:AHeap)(s:Shared)(O':AHeap)(s':Shared):Prop where
 keep:∀b o,s.heap.get? b=some o->O b=none->¬B b->(∀es n,o.data≠.dict es n)->s'.heap.get? b=some o
 keepD:∀b o,s.heap.get? b=some o->O b=none->¬B b->∃sl,s'.heap.get? b=some { o with slots:=sl }
 fresh:∀b,O' b≠none->O b=none->s.heap.objs.size<=b
 size:s.heap.objs.size<=s'.heap.objs.size
 frz:∀b xs,O b=some (.frz xs)->O' b=some (.frz xs)
theorem Step.mk'{B:Addr->Prop}{O O':AHeap}{s s':Shared}(keep:∀b o,s.heap.get? b=some o->O b=none->¬B b->s'.heap.get? b=some o)(fresh:∀b,O' b≠none->O b=none->s.heap.objs.size<=b)(size:s.heap.objs.size<=s'.heap.objs.size)
  (frz:∀b xs,O b=some (.frz xs)->O' b=some (.frz xs)):Step B O s O' s':=⟨λb o e h1 h2 _=>keep b o e h1 h2,λb o e h1 h2=>⟨o.slots,keep b o e h1 h2⟩,fresh,size,frz⟩
theorem Step.same{B:Addr->Prop}{O:AHeap}{s s':Shared}(keep:∀b o,s.heap.get? b=some o->¬B b->s'.heap.get? b=some o)(size:s.heap.objs.size<=s'.heap.objs.size):Step B O s O s':=.mk' (λb o e _ h=>keep b o e h) (λ_ h1 h2=>absurd h2 h1) size λ_ _ e=>e
def E0:Addr->Prop:=λ_=>False
theorem Step.refl(B:Addr->Prop)(O:AHeap)(s:Shared):Step B O s O s:=.same (λ_ _ e _=>e) (fO _)
theorem Step.gone{B:Addr->Prop}{O O':AHeap}{s s':Shared}(x:Step B O s O' s'){b:Addr}{o:Obj}(e:s.heap.get? b=some o)(h:O b=none):O' b=none:=by
 cases h':O' b with
 | none=>rfl
 | some _=>exact absurd (x.fresh b (by rw[h'];simp) h) (fDY.mpr (Heap.lt_size e))
theorem Step.trans{B:Addr->Prop}{O O' O'':AHeap}{s s' s'':Shared}(x:Step B O s O' s')(y:Step B O' s' O'' s''):Step B O s O'' s'' where
 keep:=λb o e h1 h2 h3=>y.keep b o (x.keep b o e h1 h2 h3) (x.gone e h1) h2 h3
 keepD:=λb o e h1 h2=>by
  obtain⟨sl,e'⟩:=x.keepD b o e h1 h2;obtain⟨sl',e''⟩:=y.keepD b _ e' (x.gone e h1) h2;exact⟨sl',e''⟩
 fresh:=λb h1 h2=>by
  cases h:O' b with
  | none=>exact fE x.size (y.fresh b h1 h)
  | some _=>exact x.fresh b (by rw[h];simp) h2
 size:=fE x.size y.size
 frz:=λb xs e=>y.frz b xs (x.frz b xs e)
theorem Step.weaken{B B':Addr->Prop}{O O':AHeap}{s s':Shared}(x:Step B O s O' s')(h:∀b,B b->B' b):Step B' O s O' s':=
 ⟨λb o e h1 h2 h3=>x.keep b o e h1 (λq=>h2 (h b q)) h3,λb o e h1 h2=>x.keepD b o e h1 λq=>h2 (h b q),x.fresh,x.size,x.frz⟩
theorem Step.drop{B B':Addr->Prop}{O O':AHeap}{s s':Shared}(x:Step B' O s O' s')(h:∀b,B' b->B b\/s.heap.objs.size<=b):Step B O s O' s':=by
 have no:∀b o,s.heap.get? b=some o->¬B b->¬B' b:=λb o e h2 q=>(h b q).elim h2 λq'=>absurd (Heap.lt_size e) (pE.mpr q');exact⟨λb o e h1 h2 h3=>x.keep b o e h1 (no b o e h2) h3,λb o e h1 h2=>x.keepD b o e h1 (no b o e h2),x.fresh,x.size,x.frz⟩
theorem zoO{o:Obj}(h:qu o)(es:Array DictEntry)(n:Nat):o.data≠.dict es n:=λe=>by
 rcases h with⟨_,_,_,h⟩|⟨_,_,h⟩|⟨_,_,_,h⟩<;>(rw[e] at h;cases h)
def NoStay(B:Addr->Prop)(h:Heap):Prop:=∀b o,B b->h.get? b=some o->¬qu o
theorem NoStay.e0{h:Heap}:NoStay E0 h:=λ_ _ h=>h.elim
theorem Step.keepV{X:Cx}{B:Addr->Prop}{O O':AHeap}{s s':Shared}(x:Step B O s O' s')(a:At X O s)(n:NoStay B s.heap):KeepV O s.heap O' s'.heap:=
 ⟨λb o e h=>(zd o (x.keep b o e (a.stays e h) (λq=>n b o q e h) (zoO h)) (.inl rfl)),x.frz⟩
theorem Step.keepV0{X:Cx}{O O':AHeap}{s s':Shared}(x:Step E0 O s O' s')(a:At X O s):KeepV O s.heap O' s'.heap:=x.keepV a .e0
theorem AHeap.wA(O:AHeap)(a:Addr)(o:AO):O.set a o a=some o:=by simp[AHeap.set]
theorem AHeap.wB(O:AHeap){a b:Addr}(o:AO)(h:b≠a):O.set a o b=O b:=by simp[AHeap.set,h]
section
variable{X:Cx}{O O':AHeap}{s s':Shared}
theorem IsD.kept{h h':Heap}{b:Addr}(x:IsD h b)(k:∀o,h.get? b=some o->h'.get? b=some o):IsD h' b:=by
 refine jy x λo es n e d=>?_;exact zag o es n (k o e) d
theorem At.ffk(a:At X O s){h':Heap}(k:∀b o,s.heap.get? b=some o->h'.get? b=some o):∀L∈X.fr,O L=none/\IsD h' L:=λL hL=>⟨(a.ff L hL).1,(a.ff L hL).2.kept λo e=>k L o e⟩
theorem At.toks(a:At X O s)(t:Nat):At X O { s with toks:=t }:=⟨a.keep,a.rep,a.own,a.gens,a.os,a.ff⟩
theorem Step.toks{B:Addr->Prop}(O:AHeap)(s:Shared)(t:Nat):Step B O s O { s with toks:=t }:=.same (λ_ _ e _=>e) (fO _)
theorem At.push(a:At X O s)(o:Obj)(t:Nat):At X O { s with heap:=s.heap.push o,toks:=t } where
 keep:=λb ob e=>Heap.get?_push_of_some _ (a.keep b ob e)
 rep:=λb ao e=>(a.rep b ao e).mono (.push o) (λ_ h=>Heap.get?_push_of_some _ h)
 own:=a.own
 gens:=a.gens
 os:=a.os
 ff:=a.ffk λ_ _ e=>Heap.get?_push_of_some _ e
theorem Step.push{B:Addr->Prop}(O:AHeap)(s:Shared)(o:Obj)(t:Nat):Step B O s O { s with heap:=s.heap.push o,toks:=t }:=
 .same (λ_ _ e _=>Heap.get?_push_of_some _ e) (by simp)
theorem zdj{b:Addr}{ao:AO}(h:∀xs,O b≠some (.frz xs))(c:Addr)(xs:List AV)(e:O c=some (.frz xs)):O.set b ao c=some (.frz xs):=by
 rw[AHeap.wB _ _ (by rintro rfl;exact h _ e)];exact e
theorem KeepV.set{h h':Heap}(k:KeepV O h O h'){b:Addr}{ao:AO}(hb:∀xs,O b≠some (.frz xs)):KeepV O h (O.set b ao) h':=⟨k.obj,zdj hb⟩
theorem zgm{b:Addr}(h:O b=none)(xs:List AV):O b≠some (.frz xs):=by rw[h];exact nofun
theorem zkG{b:Addr}{o:AO}(h:O b=some o)(ho:o.ro=false)(xs:List AV):O b≠some (.frz xs):=by
 rw[h];intro e;obtain rfl:=Hx e;cases ho
theorem At.alloc(a:At X O s){o:Obj}{ao:AO}(t:Nat)(hr:KeepV O s.heap (O.set s.heap.objs.size ao) (s.heap.push o)->RepA X (O.set s.heap.objs.size ao) (s.heap.push o) s.heap.objs.size ao):At X (O.set s.heap.objs.size ao) { s with heap:=s.heap.push o,toks:=t }:=by
 have kv:KeepV O s.heap (O.set s.heap.objs.size ao) (s.heap.push o):=(KeepV.push o).set (zgm (a.none_of_size (fO _)));refine⟨λb ob e=>Heap.get?_push_of_some _ (a.keep b ob e),λb bo e=>?_,λb bo e hro=>?_,a.gens,a.os,λL hL=>?_⟩
 .by_cases hb:b=s.heap.objs.size
  .subst hb;rw[AHeap.wA] at e;obtain rfl:=Hx e;exact hr kv
  .rw[AHeap.wB _ _ hb] at e;exact(a.rep b bo e).mono kv (λ_ h=>Heap.get?_push_of_some _ h)
 .by_cases hb:b=s.heap.objs.size
  .subst hb;cases h:X.h₀.get? s.heap.objs.size with
   | none=>rfl
   | some ob=>exact absurd (Heap.lt_size (a.keep _ _ h)) (fBN _)
  .rw[AHeap.wB _ _ hb] at e;exact a.own b bo e hro
 .refine zdD (a.ff L hL) λh1 o' es n h2 h3=>?_;exact zny (by rw[AHeap.wB _ _ (gS (Heap.lt_size h2))];exact h1) o' es n (Heap.get?_push_of_some _ h2) h3
theorem Step.alloc{B:Addr->Prop}(a:At X O s)(o:Obj)(ao:AO)(t:Nat):Step B O s (O.set s.heap.objs.size ao) { s with heap:=s.heap.push o,toks:=t }:=
 .mk' (λ_ _ e _ _=>Heap.get?_push_of_some _ e) (λb h1 h2=>by
  by_cases hb:b=s.heap.objs.size
  .rw[hb];exact fO _
  .rw[AHeap.wB _ _ hb] at h1;exact absurd h2 h1) (by simp) (zdj (zgm (a.none_of_size (fO _))))
theorem At.store(a:At X O s){b:Addr}{old ao:AO}{h':Heap}(t:Nat)(e:O b=some old)(hro:old.ro=false)(hs:Heap.SameBut b s.heap h')(hr:KeepV O s.heap (O.set b ao) h'->RepA X (O.set b ao) h' b ao) :
  At X (O.set b ao) { s with heap:=h',toks:=t }:=by
 have kv:KeepV O s.heap (O.set b ao) h':=(KeepV.mk' λc o ho st=>by
  have hc:c≠b:=by rintro rfl;rw[a.stays ho st] at e;exact absurd (Eq.symm e) (fN _)
  rw[hs.2 c hc];exact ho).set (zkG e hro)
 refine⟨λc o ho=>?_,λc co ec=>?_,λc co ec hr'=>?_,a.gens,a.os,λL hL=>?_⟩
 .have hc:c≠b:=by rintro rfl;rw[a.own _ _ e hro] at ho;exact absurd (Eq.symm ho) (fN _)
  exact(hs.2 c hc).trans (a.keep c o ho)
 .by_cases hc:c=b
  .subst hc;rw[AHeap.wA] at ec;obtain rfl:=Hx ec;exact hr kv
  .rw[AHeap.wB _ _ hc] at ec;exact(a.rep c co ec).mono kv λo ho=>(hs.2 c hc).trans ho
 .by_cases hc:c=b
  .subst hc;exact a.own _ _ e hro
  .rw[AHeap.wB _ _ hc] at ec;exact a.own c co ec hr'
 .obtain⟨h1,h2⟩:=a.ff L hL;have hc:L≠b:=by rintro rfl;rw[e] at h1;exact absurd h1 (fN _)
  exact⟨by rw[AHeap.wB _ _ hc];exact h1,h2.kept λo ho=>(hs.2 L hc).trans ho⟩
theorem Step.store{B:Addr->Prop}{b:Addr}{old ao:AO}{h':Heap}(t:Nat)(e:O b=some old)(hro:old.ro=false)(hs:Heap.SameBut b s.heap h'):Step B O s (O.set b ao) { s with heap:=h',toks:=t }:=
 .mk' (λc o ho hc _=>(hs.2 c (by rintro rfl;rw[e] at hc;cases hc)).trans ho) (λc h1 h2=>by
  by_cases hc:c=b
  .subst hc;rw[e] at h2;exact absurd h2 (fN _)
  .rw[AHeap.wB _ _ hc] at h1;exact absurd h2 h1) (pF hs.1.symm) (zdj (zkG e hro))
theorem At.aside(a:At X O s){b:Addr}{h':Heap}(t:Nat)(e:O b=none)(hb:X.h₀.get? b=none)(hn:∀o,s.heap.get? b=some o->¬qu o)(hd:b∈X.fr->IsD h' b)(hs:Heap.SameBut b s.heap h') :
  At X O { s with heap:=h',toks:=t }:=by
 have kv:KeepV O s.heap O h':=.mk' λc o ho st=>by
  have hc:c≠b:=by rintro rfl;exact hn _ ho st
  rw[hs.2 c hc];exact ho
 refine⟨λc o ho=>?_,λc co ec=>?_,a.own,a.gens,a.os,λL hL=>⟨(a.ff L hL).1,?_⟩⟩
 .have hc:c≠b:=by rintro rfl;rw[hb] at ho;exact absurd (Eq.symm ho) (fN _)
  exact(hs.2 c hc).trans (a.keep c o ho)
 .have hc:c≠b:=by rintro rfl;rw[e] at ec;exact absurd (Eq.symm ec) (fN _)
  exact(a.rep c co ec).mono kv λo ho=>(hs.2 c hc).trans ho
 .by_cases hc:L=b
  .subst hc;exact hd hL
  .exact(a.ff L hL).2.kept λo ho=>(hs.2 L hc).trans ho
theorem Step.aside{B:Addr->Prop}{b:Addr}{h':Heap}(t:Nat)(hB:B b)(hs:Heap.SameBut b s.heap h'):Step B O s O { s with heap:=h',toks:=t }:=
 .same (λc o ho hc=>(hs.2 c (by rintro rfl;exact hc hB)).trans ho) (pF hs.1.symm)
end
abbrev Loc:=List (Option AV)
noncomputable def RepO(O:AHeap)(h:Heap):Option AV->Option Value->Prop
 | none,_=>True
 | some a,some v=>RepV O h a v
 | some _,none=>False
theorem RepO.mono{O O':AHeap}{h h':Heap}(k:KeepV O h O' h'){a:Option AV}{v:Option Value}(r:RepO O h a v):RepO O' h' a v:=by
 cases a with
 | none=>trivial
 | some _=>cases v with
  | none=>exact r.elim
  | some _=>exact RepV.mono k r
structure EnvOk(env:Env):Prop where
 kind:env.scope.kind = .function
 glob:env.globals=Hl
 bi:env.builtins=builtinsNs
 apart:env.cells.Pairwise λx y=>x.2≠y.2
def zxD(nm:List (Str×Nat))(n:Nat):Prop:=(∀x i,nm.lookup x=some i->i<n)/\∀x y i,nm.lookup x=some i->nm.lookup y=some i->x=y
noncomputable def qV(nm:List (Str×Nat)):Nat:=nm.foldl (λn p=>max n (p.2+1)) 0
structure FR(X:Cx)(env:Env)(nm:List (Str×Nat))(l:Loc)(O:AHeap)(h:Heap):Prop where
 ns:∃m,h.Ns env.locals m/\∀x i,nm.lookup x=some i->env.kindOf x=some .local->RepO O h (l.getD i none) (m x)
 cell:∀x i,nm.lookup x=some i->env.kindOf x=some .cell->∃c v,env.cells.lookup x=some c/\h.IsCell c v/\RepO O h (l.getD i none) v
 out:O env.locals=none/\X.h₀.get? env.locals=none
 nmok:zxD nm l.length
 len:l.length=qV nm
 outc:∀x c,(x,c)∈env.cells->O c=none/\X.h₀.get? c=none/\∃v,h.IsCell c v
def FB(env:Env):Addr->Prop:=λb=>b=env.locals\/∃x,(x,b)∈env.cells
section
variable{X:Cx}{env:Env}{nm:List (Str×Nat)}{l:Loc}{O O':AHeap}{s s':Shared}
theorem zaZ{o:Obj}{es n}(hd:o.data = .dict es n):¬qu o:=by
 rintro(⟨_,_,_,h⟩|⟨_,_,h⟩|⟨_,_,_,h⟩)<;>(rw[hd] at h;cases h)
theorem zhR{o:Obj}{v}(hd:o.data = .cell v):¬qu o:=by
 rintro(⟨_,_,_,h⟩|⟨_,_,h⟩|⟨_,_,_,h⟩)<;>(rw[hd] at h;cases h)
theorem kM{h:Heap}{a:Addr}{m}(n:h.Ns a m):∀o,h.get? a=some o->¬qu o:=by
 intro o e;refine jh n λo' es ep ho hd _=>?_;rw[e] at ho;obtain rfl:=Hx ho;exact zaZ hd
theorem ky{h:Heap}{a:Addr}{v}(n:h.IsCell a v):∀o,h.get? a=some o->¬qu o:=by
 intro o e;refine zb n λo' ho hd=>?_;rw[e] at ho;obtain rfl:=Hx ho;exact zhR hd
theorem znE{h:Heap}{a:Addr}{m}(n:h.Ns a m):IsD h a:=by refine jh n λo es ep ho hd _=>?_;exact zag o es ep ho hd
theorem znD{h:Heap}{a:Addr}{v}(n:h.IsCell a v):¬IsD h a:=by
 intro hR1;refine jy hR1 λo es ep ho hd=>?_;refine zb n λo' ho' hd'=>?_;rw[ho] at ho';obtain rfl:=Hx ho';rw[hd] at hd';cases hd'
theorem zbB{h:Heap}{a b:Addr}{m v}(n:h.Ns a m)(c:h.IsCell b v):a≠b:=by
 rintro rfl;refine jh n λo' es ep ho hd _=>?_;refine zb c λo ho' hd'=>?_;rw[ho] at ho';obtain rfl:=Hx ho';rw[hd] at hd';cases hd'
theorem FR.noStay(F:FR X env nm l O s.heap):NoStay (FB env) s.heap:=by
 rintro b o (rfl|⟨x,hx⟩) e
 .refine zb F.ns λm hn _=>?_;exact kM hn o e
 .refine ko (F.outc x b hx) λ_ _ v hc=>?_;exact ky hc o e
theorem FR.stepB{B:Addr->Prop}(F:FR X env nm l O s.heap)(a:At X O s)(st:Step B O s O' s')(hB:∀b,FB env b->¬B b)(hn:NoStay B s.heap):FR X env nm l O' s'.heap:=by
 have kv:=st.keepV a hn;refine zb F.ns λm h29_1 hm=>?_;refine jh h29_1 λo es ep ho hd r=>?_;obtain⟨sl,ho'⟩:=st.keepD _ _ ho F.out.1 (hB _ (.inl rfl));have cellK:∀x c o v,(x,c)∈env.cells->s.heap.get? c=some o->o.data = .cell v->O c=none->s'.heap.get? c=some o:=λx c o v hx e hd h=>st.keep c o e h (hB c (.inr ⟨x,hx⟩)) λes n q=>by rw[hd] at q;cases q
 refine⟨(zd m (qU _ es ep ho' hd r) (λx i hx hk=>(hm x i hx hk).mono kv)),λx i hx hk=>?_,⟨st.gone ho F.out.1,F.out.2⟩,F.nmok,F.len,λx c hx=>?_⟩
 .refine zl (F.cell x i hx hk) λc v hc h31_3 hr=>?_;refine zb h31_3 λo ho hd=>?_;exact zI c v hc (zd o (cellK x c o v (mem_of_lookup hc) ho hd (F.outc x c (mem_of_lookup hc)).1) hd) (hr.mono kv)
 .refine ko (F.outc x c hx) λh1 h2 v h32_3=>?_;refine zb h32_3 λo ho hd=>?_;exact zae (st.gone ho h1) h2 v (zd o (cellK x c o v hx ho hd h1) hd)
theorem FR.step(F:FR X env nm l O s.heap)(a:At X O s)(st:Step E0 O s O' s'):FR X env nm l O' s'.heap:=F.stepB a st (λ_ _ h=>h) .e0
theorem zbU(l:Loc)(i j:Nat)(v:Option AV)(hi:i<l.length):(l.set i v).getD j none=if j=i then v else l.getD j none:=by
 simp only[fQ,List.getElem?_set]
 by_cases h:i=j
 .subst h;simp[hi]
 .have:¬j=i:=λe=>h e.symm;simp[h,this]
theorem zfK{M:Model}{A:Around}{E:Value->Shared->Prop}{x:Str}{i:Nat}{av:AV}{v:Value}{Q:Unit->Shared->Prop}(EO:EnvOk env)(F:FR X env nm l O s.heap)(a:At X O s)
  (hx:nm.lookup x=some i)(hk:env.kindOf x=some .local)(hv:RepV O s.heap av v)
  (h:∀s',FR X env nm (l.set i (some av)) O s'.heap->At X O s'->Step (λb=>b=env.locals) O s O s'->Q () s'):wpAny M A (storeName env x v) Q E s:=by
 have N:=F.nmok;refine zb F.ns λm hn hm=>?_;refine wpAny_storeName_local hk hn (λh' hn' hs'=>?_) (by rw[EO.kind];rfl);have kv:KeepV O s.heap O h':=.mk' λb o e st=>(hs'.2 b (by rintro rfl;exact kM hn o e st)).trans e;refine h _ ⟨(zd _ hn' (λy j hy hky=>?_)),λy j hy hky=>?_,F.out,by simpa using N,by simpa using F.len,λy c hy=>?_⟩ (a.aside _ F.out.1 F.out.2 (kM hn) (λ_=>znE hn') hs') (Step.aside _ rfl hs')
 .rw[zbU _ _ _ _ (N.1 x i hx)]
  by_cases hyx:y=x
  .subst hyx;rw[hx] at hy;obtain rfl:=Hx hy;simp only[if_true];exact hv.mono kv
  .have:j≠i:=λe=>hyx (N.2 y x i (e▸hy) hx);simp only[hyx,this,if_false];exact(hm y j hy hky).mono kv
 .refine zl (F.cell y j hy hky) λc u hc hcc hr=>?_;have hyx:y≠x:=by rintro rfl;rw[hk] at hky;cases hky
  have hji:j≠i:=λe=>hyx (N.2 y x i (e▸hy) hx);rw[zbU _ _ _ _ (N.1 x i hx),if_neg hji];exact zI c u hc (hcc.sameBut hs' (Ne.symm (zbB hn hcc))) (hr.mono kv)
 .refine ko (F.outc y c hy) λh1 h2 u hcc=>?_;exact zae h1 h2 u (hcc.sameBut hs' (Ne.symm (zbB hn hcc)))
theorem zeM{M:Model}{A:Around}{E:Value->Shared->Prop}{x:Str}{i:Nat}{av:AV}{v:Value}{Q:Unit->Shared->Prop}(EO:EnvOk env)(F:FR X env nm l O s.heap)(a:At X O s)
  (hx:nm.lookup x=some i)(hk:env.kindOf x=some .local\/env.kindOf x=some .cell)(hv:RepV O s.heap av v)
  (h:∀s',FR X env nm (l.set i (some av)) O s'.heap->At X O s'->Step (FB env) O s O s'->Q () s'):wpAny M A (storeName env x v) Q E s:=by
 have N:=F.nmok
 rcases hk with hk|hk
 .exact zfK EO F a hx hk hv λs' F' a' st=>h s' F' a' (st.weaken λb hb=>.inl hb)
 .refine zb F.ns λm hn hm=>?_;refine zl (F.cell x i hx hk) λc u hc hcc hr=>?_;refine wpAny_storeName_cell EO.kind hk hc hcc λh' hcc' hs'=>?_;have kv:KeepV O s.heap O h':=.mk' λb o e st=>(hs'.2 b (by rintro rfl;exact ky hcc o e st)).trans e;have oc:=F.outc x c (mem_of_lookup hc);refine h { s with heap:=h' } ⟨(zd m (hn.sameBut hs' (zbB hn hcc)) (λy j hy hky=>?_)),λy j hy hky=>?_,F.out,by simpa using N,by simpa using F.len,λy c' hy=>?_⟩ (a.aside (t:=s.toks) (h':=h') oc.1 oc.2.1 (ky hcc) (λhL=>((znD hcc) (a.ff _ hL).2).elim) hs')
   (Step.aside (t:=s.toks) (h':=h') (Or.inr ⟨x,mem_of_lookup hc⟩) hs')
  .have hyx:y≠x:=by rintro rfl;rw[hk] at hky;cases hky
   have hji:j≠i:=λe=>hyx (N.2 y x i (e▸hy) hx);rw[zbU _ _ _ _ (N.1 x i hx),if_neg hji];exact(hm y j hy hky).mono kv
  .rw[zbU _ _ _ _ (N.1 x i hx)]
   by_cases hyx:y=x
   .subst hyx;rw[hx] at hy;obtain rfl:=Hx hy;simp only[if_true];exact zI c (some v) hc hcc' (hv.mono kv)
   .have hji:j≠i:=λe=>hyx (N.2 y x i (e▸hy) hx);simp only[hji,if_false];refine zl (F.cell y j hy hky) λc' u' hc' hcc'' hr'=>?_;refine zI c' u' hc' (hcc''.sameBut hs' ?_) (hr'.mono kv);rintro rfl;exact hyx (name_of_addr EO.apart (mem_of_lookup hc') (mem_of_lookup hc))
  .refine ko (F.outc y c' hy) λh1 h2 u' hcc''=>?_
   by_cases hcc3:c'=c
   .subst hcc3;exact zae h1 h2 _ hcc'
   .exact zae h1 h2 u' (hcc''.sameBut hs' hcc3)
theorem zqR{M:Model}{A:Around}{E:Value->Shared->Prop}{x:Str}{i:Nat}{av:AV}{Q:Value->Shared->Prop}(EO:EnvOk env)(F:FR X env nm l O s.heap)
  (hx:nm.lookup x=some i)(hk:env.kindOf x=some .local\/env.kindOf x=some .cell)(hl:l.getD i none=some av)(h:∀v,RepV O s.heap av v->Q v s):wpAny M A (loadName env x) Q E s:=by
 rcases hk with hk|hk
 .refine zb F.ns λm hn hm=>?_;have hr:=hm x i hx hk;rw[hl] at hr;cases hv:m x with
  | none=>rw[hv] at hr;exact hr.elim
  | some v=>rw[hv] at hr;exact wpAny_loadName_local EO.kind hk hn hv (h v hr)
 .refine zl (F.cell x i hx hk) λc u hc hcc hr=>?_;rw[hl] at hr;cases u with
  | none=>exact hr.elim
  | some v=>exact wpAny_loadName_cell EO.kind hk hc hcc (h v hr)
end
def zcz(n:Nat)(P:Prop):Prop:=match Nat.ble n 1000000 with
 | true=>P
 | false=>False
theorem zV{n:Nat}{P:Prop}(h:n<=1000000)(q:P):zcz n P:=by unfold zcz;rw[fCJ h];exact q
theorem qI{n:Nat}{P:Prop}(h:zcz n P):n<=1000000/\P:=by
 unfold zcz at h;cases e:Nat.ble n 1000000 with
 | true=>rw[e] at h;exact⟨fAE e,h⟩
 | false=>rw[e] at h;exact h.elim
def zm{J:Type}(o:Option J)(F:J->Prop):Prop:=match o with
 | some a=>F a
 | none=>False
theorem zi{J:Type}{o:Option J}{F:J->Prop}{a:J}(h:o=some a)(q:F a):zm o F:=by rw[h];exact q
theorem zf{J:Type}{o:Option J}{F:J->Prop}(h:zm o F):∃a,o=some a/\F a:=by
 cases o with
 | none=>exact h.elim
 | some a=>exact zd a rfl h
def onB(b:Bool)(P:Prop):Prop:=match b with
 | true=>P
 | false=>False
theorem qZ{b:Bool}{P:Prop}(h:b=true)(q:P):onB b P:=by rw[h];exact q
theorem qB{b:Bool}{P:Prop}(h:onB b P):b=true/\P:=by
 cases b with
 | false=>exact h.elim
 | true=>exact⟨rfl,h⟩
noncomputable def AV.int? : AV->Option Int
 | .int i=>some i
 | _=>Option.none
noncomputable def AV.bool? : AV->Option Bool
 | .bool i=>some i
 | _=>Option.none
noncomputable def AV.str? : AV->Option Nat
 | .str i=>some i
 | _=>Option.none
noncomputable def AV.tup? : AV->Option (List AV)
 | .tup i=>some i
 | _=>Option.none
theorem jd{x:AV}{i:Int}(h:x.int? = some i):x = .int i:=by
 cases x with
 | int j=>cases h;rfl
 | _=>cases h
theorem zbL{x:AV}{i:Bool}(h:x.bool? = some i):x = .bool i:=by
 cases x with
 | bool j=>cases h;rfl
 | _=>cases h
theorem zqy{x:AV}{i:Nat}(h:x.str? = some i):x = .str i:=by
 cases x with
 | str j=>cases h;rfl
 | _=>cases h
theorem zqH{x:AV}{i:List AV}(h:x.tup? = some i):x = .tup i:=by
 cases x with
 | tup j=>cases h;rfl
 | _=>cases h
def cB(c:Bool)(P R:Prop):Prop:=match c with
 | true=>P
 | false=>R
theorem zcD{c:Bool}{P R:Prop}(h1:c=true->P)(h2:c=false->R):cB c P R:=by
 cases c with
 | true=>exact h1 rfl
 | false=>exact h2 rfl
abbrev zk:=AV->AHeap->Prop
abbrev XP:=Addr->AHeap->Prop
structure Dp where
 n:Nat
 hd:Bool
abbrev AE:=Dp->Loc->zk->XP->AHeap->Prop
structure FrOk(X:Cx)(envs:List Env):Prop where
 is:∀e∈envs,e.scope.kind≠.module/\∃L,e.frame=some L/\L∈X.fr
 out:∀L∈X.fr,X.h₀.get? L=none
structure Live(X:Cx)(d:Dp)(A:Around):Prop where
 depth:A.depth<=301+d.n
 units:A.units<=20+8*d.n
 handled:d.hd=false->A.handled=none
 small:d.n<=600
 frames:∃envs,A.frames=some envs/\FrOk X envs/\∀e,X.top=some e->∃outer,envs=e::outer
theorem Live.room{X:Cx}{d:Dp}{A:Around}(L:Live X d A):A.units+3000<cLine:=by
 have h1:=L.units;have h2:=L.small;show A.units+3000<9900;exact zEY h1 h2
noncomputable def vis(O:AHeap):AHeap:=λa=>match O a with
 | some (.frz _)=>none
 | o=>o
theorem zB{O:AHeap}{a:Addr}{o:AO}(h:vis O a=some o):O a=some o/\o.ro=false:=by
 unfold vis at h;split at h
 .exact absurd (Eq.symm h) (fN _)
 .rename_i hne
  refine⟨h,?_⟩;cases o with
  | frz xs=>exact(hne _ h).elim
  | _=>rfl
theorem zj3{O:AHeap}{a:Addr}{o:AO}(h:O a=some o)(ho:o.ro=false):vis O a=some o:=by
 unfold vis;split
 .rename_i e;rw[e] at h;obtain rfl:=Hx h;cases ho
 .exact h
theorem qh{O:AHeap}{a:Addr}(h:O a=none):vis O a=none:=by
 unfold vis;rw[h]
theorem jr{O:AHeap}{a:Addr}{o:AO}(ho:o.ro=false):vis (O.set a o)=(vis O).set a o:=by
 funext b
 by_cases hb:b=a
 .subst hb;rw[AHeap.wA,zj3 (AHeap.wA ..) ho]
 .rw[AHeap.wB _ _ hb];unfold vis;rw[AHeap.wB _ _ hb]
theorem zgH{O:AHeap}{a:Addr}{xs:List AV}(h:O a=none):vis (O.set a (.frz xs))=vis O:=by
 funext b
 by_cases hb:b=a
 .subst hb;unfold vis;rw[AHeap.wA,h]
 .unfold vis;rw[AHeap.wB _ _ hb]
def New(O:AHeap)(s:Shared)(x:Addr):Prop:=∀o,s.heap.get? x=some o->O x≠none
theorem New.back{B:Addr->Prop}{O O':AHeap}{s s':Shared}{x:Addr}(st:Step B O s O' s')(hB:¬B x)(h:New O' s' x):New O s x:=λo e q=>by
 obtain⟨sl,e'⟩:=st.keepD x o e q hB;exact h _ e' (st.gone e q)
structure Fly(X:Cx)(O:AHeap)(g:Heap)(x c:Addr)(h:Heap):Prop where
 keepS:∀b o,g.get? b=some o->b≠x->∃sl,h.get? b=some { o with slots:=sl }
 keepX:∀b o,g.get? b=some o->b≠x->((∀es n,o.data≠.dict es n)\/O b≠none\/X.h₀.get? b≠none)->h.get? b=some o
 exg:∃vs,g.get? x=some (exO c vs)
 size:g.objs.size<=h.objs.size
 exh:∃vs,h.get? x=some (exO c vs)/\(vs[1]? = some .none\/∃T tc ts,vs[1]? = some (.ref T)/\T≠x/\g.get? T=none/\h.get? T=some { cls:=tc,dict:=none,data:=.fields ts,slots:=#[] }/\ts[3]? = some .none)
def liftQ(X:Cx)(O:AHeap)(s:Shared)(Q:zk):Value->Shared->Prop:=
 λv s'=>∃av O',RepV O' s'.heap av v/\At X O' s'/\Step E0 O s O' s'/\Q av (vis O')
def liftX(X:Cx)(O:AHeap)(s:Shared)(Z:XP):Value->Shared->Prop:=
 λe s'=>∃c O' x g,e = .ref x/\New O s x/\At X O' { s' with heap:=g }/\Step E0 O s O' { s' with heap:=g }/\Fly X O' g x c s'.heap/\Z c (vis O')
def liftB(X:Cx)(O:AHeap)(s:Shared)(Q:Bool->AHeap->Prop):Bool->Shared->Prop:=
 λb s'=>∃O',At X O' s'/\Step E0 O s O' s'/\Q b (vis O')
def zrk(X:Cx)(O:AHeap)(s:Shared)(Q:List AV->AHeap->Prop):List Value->Shared->Prop:=
 λvs s'=>∃avs O',RepVs O' s'.heap avs vs/\At X O' s'/\Step E0 O s O' s'/\Q avs (vis O')
section
variable{X:Cx}{A:Around}{O O':AHeap}{s s':Shared}{Z:XP}
theorem liftX.back{e:Value}{s'':Shared}(st:Step E0 O s O' s')(h:liftX X O' s' Z e s''):liftX X O s Z e s'':=
 by refine jI h λc O'' x g h1 h2 a st' f z=>?_;exact qF c O'' x g h1 (h2.back st (λh=>h)) a (st.trans st') f z
theorem liftQ.back{Q:zk}{v:Value}{s'':Shared}(st:Step E0 O s O' s')(h:liftQ X O' s' Q v s''):liftQ X O s Q v s'':=
 by refine zh h λav O'' r a st' q=>?_;exact zn av O'' r a (st.trans st') q
theorem liftB.back{Q:Bool->AHeap->Prop}{v:Bool}{s'':Shared}(st:Step E0 O s O' s')(h:liftB X O' s' Q v s''):liftB X O s Q v s'':=
 by refine zj h λO'' a st' q=>?_;exact zt O'' a (st.trans st') q
theorem kR{J:Type}{t:Sem Value}{f:Value->Sem J}{Q1:zk}{R:Value->J->Shared->Prop}(h:wpAny X.M A t (liftQ X O s Q1) (liftX X O s Z) s)
  (k:∀av v σ1 s1,RepV σ1 s1.heap av v->At X σ1 s1->Step E0 O s σ1 s1->Q1 av (vis σ1)->wpAny X.M A (f v) (R v) (liftX X O s Z) s1) :
  wpAny X.M A t (λv s1=>wpAny X.M A (f v) (R v) (liftX X O s Z) s1) (liftX X O s Z) s:=
 G9 h (λv s1 hpz=>zh hpz λav σ1 r a st q=>k av v σ1 s1 r a st q) λ_ _ e=>e
theorem jO{t:Sem Value}{Q:zk}(st:Step E0 O s O' s')(h:wpAny X.M A t (liftQ X O' s' Q) (liftX X O' s' Z) s'):wpAny X.M A t (liftQ X O s Q) (liftX X O s Z) s':=
 G9 h (λ_ _ h=>h.back st) λ_ _ h=>h.back st
theorem ze3{t:Sem Bool}{Q:Bool->AHeap->Prop}(st:Step E0 O s O' s')(h:wpAny X.M A t (liftB X O' s' Q) (liftX X O' s' Z) s'):wpAny X.M A t (liftB X O s Q) (liftX X O s Z) s':=
 G9 h (λ_ _ h=>h.back st) λ_ _ h=>h.back st
theorem zbG{Q:zk}{av:AV}{v:Value}(a:At X O s)(r:RepV O s.heap av v)(q:Q av (vis O)):liftQ X O s Q v s:=(zn av O r a (.refl ..) q)
theorem zax{Q:zk}{av:AV}{v:Value}{t:Nat}(a:At X O s)(r:RepV O s.heap av v)(q:Q av (vis O)):liftQ X O s Q v { s with toks:=t }:=(zn av O r (a.toks t) (.toks ..) q)
end
def zg(X:Cx)(env:Env)(nm:List (Str×Nat))(e:Expr)(m:AE):Prop:=
 ∀d A l O s Q Z,Live X d A->At X O s->FR X env nm l O s.heap->m d l Q Z (vis O)->wpAny X.M A (eval e env) (liftQ X O s Q) (liftX X O s Z) s
def isB(Q:Bool->AHeap->Prop):zk:=λa O=>zm a.bool? λb=>Q b O
def qz(X:Cx)(env:Env)(nm:List (Str×Nat))(e:Expr)(m:AE):Prop:=
 ∀d A l O s Q Z,Live X d A->At X O s->FR X env nm l O s.heap->m d l (isB Q) Z (vis O)->wpAny X.M A (isTrue e env (eval e env)) (liftB X O s Q) (liftX X O s Z) s
namespace A
def kAt(Q:zk)(O:AHeap)(a:AV):Prop:=Q a O
def loc(i:Nat):AE:=λ_ l Q _ O=>zm (l.getD i none) (kAt Q O)
def k(a:AV):AE:=λ_ _ Q _ O=>Q a O
end A
section
variable{X:Cx}{env:Env}{nm:List (Str×Nat)}
theorem zmk{x:Str}{pos:Pos}{i:Nat}(EO:EnvOk env)(hx:nm.lookup x=some i)(hk:env.kindOf x=some .local\/env.kindOf x=some .cell)(hd:(x==("__debug__" : Str))=false) :
  zg X env nm (.Name x pos) (A.loc i):=λd A l O s Q Z L a F q=>by
 refine zb (zf q) λav hl q=>?_;exact wpAny_Name (zqR EO F hx hk hl λv r=>zbG a r q) hd
theorem zmh{i:Int}{k pos}:zg X env nm (.Constant (.int i) k pos) (A.k (.int i)):=λd A l O s Q Z L a F q=>
 wpAny_Constant_int (zax a (.int _ _) q)
theorem zmt{x:Str}{n:Nat}(hn:n<kU)(hx:zu n=x){k pos}:zg X env nm (.Constant (.str x) k pos) (A.k (.str n)):=λd A l O s Q Z L a F q=>by
 subst hx;exact λ_ _ _=>zax a (.str hn _) q
theorem zjT{k pos}:zg X env nm (.Constant .none k pos) (A.k .none):=λd A l O s Q Z L a F q=>G8 (zbG a .none q)
theorem zjN{b:Bool}{k pos}:zg X env nm (.Constant (.bool b) k pos) (A.k (.bool b)):=λd A l O s Q Z L a F q=>G8 (zbG a (.bool b) q)
theorem zl7{e:Expr}{m:AE}(h:zg X env nm e m)(he:∀whole,isTrue e env whole=(do let v <-whole;standAt e.pos;holding [v] (truthy v))):qz X env nm e m:=λd A l O s Q Z L a F q=>by
 rw[he];refine G7 (kR (h d A l O s (isB Q) Z L a F q) λav v σ1 s1 r a1 st hpx=>?_);refine zb (zf hpx) λb e q1=>?_;have e:=zbL e;subst e;obtain rfl:=RepV.wO r;exact G7 (Hh (Ha (wpAny_truthy_bool (zt σ1 a1 st q1))))
end
inductive Fl where
 | next
 | ret (v:AV)
abbrev zN:=Fl->Loc->AHeap->Prop
abbrev SXP:=Addr->Loc->AHeap->Prop
abbrev AS:=Dp->Loc->zN->SXP->AHeap->Prop
noncomputable def zrb(O:AHeap)(h:Heap):Fl->Flow->Prop
 | .next,.next=>True
 | .ret a,.ret v=>RepV O h a v
 | _,_=>False
def liftS(X:Cx)(env:Env)(nm:List (Str×Nat))(O:AHeap)(s:Shared)(Q:zN):Flow->Shared->Prop:=
 λf s'=>∃fl l' O',zrb O' s'.heap fl f/\At X O' s'/\FR X env nm l' O' s'.heap/\Step (FB env) O s O' s'/\Q fl l' (vis O')
def liftSX(X:Cx)(env:Env)(nm:List (Str×Nat))(O:AHeap)(s:Shared)(Z:SXP):Value->Shared->Prop:=
 λe s'=>∃c l' O' x g,e = .ref x/\(New O s x/\¬FB env x)/\At X O' { s' with heap:=g }/\FR X env nm l' O' g/\Step (FB env) O s O' { s' with heap:=g }/\Fly X O' g x c s'.heap/\Z c l' (vis O')
def jw(X:Cx)(env:Env)(nm:List (Str×Nat))(st:Stmt)(m:AS):Prop:=
 ∀d A l O s Q Z,Live X d A->At X O s->FR X env nm l O s.heap->m d l Q Z (vis O)->wpAny X.M A (exec st env) (liftS X env nm O s Q) (liftSX X env nm O s Z) s
def qp(X:Cx)(env:Env)(nm:List (Str×Nat))(sts:List Stmt)(m:AS):Prop:=
 ∀d A l O s Q Z,Live X d A->At X O s->FR X env nm l O s.heap->m d l Q Z (vis O)->wpAny X.M A (execs sts env) (liftS X env nm O s Q) (liftSX X env nm O s Z) s
namespace A
def nil:AS:=λd l Q Z O=>Q .next l O
def vD(b:AS)(d:Dp)(Q:zN)(Z:SXP):zN:=λf l' O'=>match f with|.next=>b d l' Q Z O'|.ret v=>Q (.ret v) l' O'
def kZ(Z:SXP)(l:Loc):XP:=λc O'=>Z c l O'
def vG(i:Nat)(l:Loc)(Q:zN):zk:=λa O'=>Q .next (l.set i (some a)) O'
def zyd(l:Loc)(Q:zN):zk:=λa O'=>Q (.ret a) l O'
def kIf(a b:AS)(d:Dp)(l:Loc)(Q:zN)(Z:SXP)(c:Bool)(O':AHeap):Prop:=cB c (a d l Q Z O') (b d l Q Z O')
def noX:SXP:=λ_ _ _=>False
def wN(I:AHeap->Prop)(K:Loc->AHeap->Prop)(S:zN):zN:=λf l'' O'=>match f with|.next=>I O'/\K l'' O'|.ret v=>S (.ret v) l'' O'
def cons(a b:AS):AS:=λd l Q Z O=>a d l (vD b d Q Z) Z O
def set(i:Nat)(x:AE):AS:=λd l Q Z O=>x d l (vG i l Q) (kZ Z l) O
def ret(x:AE):AS:=λd l Q Z O=>x d l (zyd l Q) (kZ Z l) O
def vK:AS:=λd l Q Z O=>Q (.ret .none) l O
def if_(t:AE)(a b:AS):AS:=λd l Q Z O=>t d l (isB (kIf a b d l Q Z)) (kZ Z l) O
def w0(t:AE)(a:AS):AS:=λd l Q Z O=>∃(Ja:Nat->Loc->AHeap->Prop) (n:Nat),Ja n l O/\∀n l O,Ja n l O->
 t d l (isB λc O'=>cB c (a d l (λf l' O''=>match f with|.next=>∃m,m<n/\Ja m l' O''|.ret v=>Q (.ret v) l' O'') (λ_ _ _=>False) O') (Q .next l O')) (λ_ _=>False) O
end A
section
variable{X:Cx}{env:Env}{nm:List (Str×Nat)}{O O':AHeap}{s s':Shared}
theorem FB.wP(b:Addr)(h:E0 b):FB env b:=h.elim
theorem liftS.back{Q:zN}{f:Flow}{s'':Shared}(st:Step (FB env) O s O' s')(h:liftS X env nm O' s' Q f s''):liftS X env nm O s Q f s'':=
 by refine jX h λfl l' O'' r a F st' q=>?_;exact zE fl l' O'' r a F (st.trans st') q
theorem liftSX.back{Z:SXP}{e:Value}{s'':Shared}(st:Step (FB env) O s O' s')(h:liftSX X env nm O' s' Z e s''):liftSX X env nm O s Z e s'':=
 by refine qO h λc l' O'' x g h1 h2 a F st' f q=>?_;exact zaQ c l' O'' x g h1 ⟨h2.1.back st h2.2,h2.2⟩ a F (st.trans st') f q
theorem FB.vC{l:Loc}{g:Heap}{x c:Addr}(F:FR X env nm l O g)(h:∃vs,g.get? x=some (exO c vs)):¬FB env x:=by
 obtain⟨vs,h1⟩:=h;rintro(rfl|⟨y,hy⟩)
 .refine zb F.ns λm h3_1 _=>?_;refine jh h3_1 λo' es ep h3 h4 _=>?_;rw[h1] at h3;obtain rfl:=Hx h3;cases h4
 .refine zbN (F.outc y x hy) λ_ _ v o' h3 h4=>?_;rw[h1] at h3;obtain rfl:=Hx h3;cases h4
theorem liftX.toS{l:Loc}{Z:SXP}{e:Value}{s'':Shared}(a0:At X O s)(F:FR X env nm l O s.heap)(h:liftX X O s (λc O'=>Z c l O') e s''):liftSX X env nm O s Z e s'':=
 by refine jI h λc O'' x g h1 h2 a st' f q=>?_;exact zaQ c l O'' x g h1 ⟨h2,FB.vC (F.step a0 st') f.exg⟩ a (F.step a0 st') (st'.weaken FB.wP) f q
theorem inS{J:Type}{A:Around}{l:Loc}{t:Sem Value}{f:Value->Sem J}{Q1:zk}{Z:SXP}{R:J->Shared->Prop}{E:Value->Shared->Prop}(a0:At X O s)(F:FR X env nm l O s.heap)
  (h:wpAny X.M A t (liftQ X O s Q1) (liftX X O s λc O'=>Z c l O') s)(hE:∀e s',liftSX X env nm O s Z e s'->E e s')
  (k:∀av v σ1 s1,RepV σ1 s1.heap av v->At X σ1 s1->FR X env nm l σ1 s1.heap->Step (FB env) O s σ1 s1->Step E0 O s σ1 s1->Q1 av (vis σ1)->wpAny X.M A (f v) R E s1) :
  wpAny X.M A t (λv s1=>wpAny X.M A (f v) R E s1) E s:=
 G9 h (λv s1 hpz=>zh hpz λav σ1 r a st q=>k av v σ1 s1 r a (F.step a0 st) (st.weaken FB.wP) st q) λe s' x=>hE e s' (x.toS a0 F)
theorem zmp:qp X env nm [] A.nil:=λd A l O s Q Z L a F q=>wpAny_execs_nil (zE .next l O trivial a F (.refl ..) q)
theorem zjP{st:Stmt}{sts:List Stmt}{m ms:AS}(h:jw X env nm st m)(hs:qp X env nm sts ms):qp X env nm (st::sts) (A.cons m ms):=λd A l O s Q Z L a F q=>by
 refine wpAny_execs_cons (G9 (h d A l O s _ Z L a F q) (λf s1 hpx=>?_) λ_ _ e=>e);refine jX hpx λfl l1 σ1 r a1 F1 st1 q1=>?_;cases f with
 | next=>
  cases fl with
  | next=>exact G9 (hs d A l1 σ1 s1 Q Z L a1 F1 q1) (λ_ _ x=>x.back st1) λ_ _ x=>x.back st1
  | ret v=>exact r.elim
 | ret v=>
  cases fl with
  | next=>exact r.elim
  | ret av=>exact⟨.ret av,l1,σ1,r,a1,F1,st1,q1⟩
 | brk=>cases fl<;>exact r.elim
 | cont=>cases fl<;>exact r.elim
theorem zms{e:Expr}{pos:Pos}{m:AE}(h:zg X env nm e m):jw X env nm (.Return (some e) pos) (A.ret m):=λd A l O s Q Z L a F q=>
 wpAny_Return_some (G9 (h d A l O s _ _ L a F q) (λv s1 hpz=>zh hpz λav σ1 r a1 st q1=>(zE (.ret av) l σ1 r a1 (F.step a st) (st.weaken FB.wP) q1)) λ_ _ x=>x.toS a F)
theorem zjV{pos:Pos}:jw X env nm (.Return none pos) A.vK:=λd A l O s Q Z L a F q=>
 wpAny_Return_none (zE (.ret .none) l O RepV.none a F (.refl ..) q)
theorem zfB{x:Str}{pos' pos:Pos}{value:Expr}{m:AE}{i:Nat}(EO:EnvOk env)(h:zg X env nm value m)(hx:nm.lookup x=some i)(hk:env.kindOf x=some .local\/env.kindOf x=some .cell)
  (hs:swapsWith value (some (.Name x pos')) pos.line env=pure false):jw X env nm (.Assign [.Name x pos'] value pos) (A.set i m):=λd A l O s Q Z L a F q=>
 wpAny_Assign_Name (inS a F (h d A l O s _ _ L a F q) (λ_ _ e=>e) λav v σ1 s1 r a1 F1 st _ q1=>
  zeM EO F1 a1 hx hk r λs2 F2 a2 st2=>(zE .next _ σ1 trivial a2 F2 (st.trans st2) q1)) hs
theorem zoM{test:Expr}{body orelse:List Stmt}{pos:Pos}{t:AE}{a b:AS}(ht:qz X env nm test t)(ha:qp X env nm body a)(hb:qp X env nm orelse b) :
  jw X env nm (.If test body orelse pos) (A.if_ t a b):=λd A l O s Q Z L a0 F q=>by
 refine wpAny_If (G9 (ht d A l O s _ _ L a0 F q) (λc s1 hpx=>?_) λ_ _ x=>x.toS a0 F);refine zj hpx λσ1 a1 st q1=>?_;have F1:=F.step a0 st;have st':=st.weaken (B':=FB env) FB.wP;cases c with
 | true=>exact G9 (ha d A l σ1 s1 Q Z L a1 F1 q1) (λ_ _ x=>x.back st') λ_ _ x=>x.back st'
 | false=>exact G9 (hb d A l σ1 s1 Q Z L a1 F1 q1) (λ_ _ x=>x.back st') λ_ _ x=>x.back st'
theorem noX{O:AHeap}{s:Shared}{e:Value}{s':Shared}{P:Prop}(h:liftX X O s (λ_ _=>False) e s'):P:=by refine jI h λ_ _ _ _ _ _ _ _ _ z=>?_;exact z.elim
theorem zt1{O:AHeap}{s:Shared}{e:Value}{s':Shared}{P:Prop}(h:liftSX X env nm O s (λ_ _ _=>False) e s'):P:=by refine qO h λ_ _ _ _ _ _ _ _ _ _ _ z=>?_;exact z.elim
theorem zih{test:Expr}{body:List Stmt}{pos:Pos}{t:AE}{m:AS}(ht:qz X env nm test t)(hb:qp X env nm body m) :
  jw X env nm (.While test body [] pos) (A.w0 t m):=λd A l O s Q Z L a0 F hpz=>jq hpz λJa n hJ hstep=>by
 refine wpAny_While (codeAny_whileLoop (λn s1=>∃l1 σ1,At X σ1 s1/\FR X env nm l1 σ1 s1.heap/\Step (FB env) O s σ1 s1/\Ja n l1 (vis σ1)) ?_ n (zn l O a0 F (.refl ..) hJ));intro n s1 hR1;refine zh hR1 λl1 σ1 a1 F1 st1 hJ1=>?_;refine G9 (ht d A l1 σ1 s1 _ _ L a1 F1 (hstep n l1 (vis σ1) hJ1)) (λc s2 hpx=>?_) λ_ _ x=>noX x;refine zj hpx λσ2 a2 st2 q2=>?_;have F2:=F1.step a1 st2;have st2':=st1.trans (st2.weaken (B':=FB env) FB.wP);cases c with
 | true=>
  refine G9 (hb d A l1 σ2 s2 _ _ L a2 F2 q2) (λf s3 hpx=>?_) λ_ _ x=>zt1 x;refine jX hpx λfl l3 σ3 r a3 F3 st3 q3=>?_;cases f with
  | next=>
   cases fl with
   | next=>refine zb q3 λk hk hJ3=>?_;exact zjb k hk l3 σ3 a3 F3 (st2'.trans st3) hJ3
   | ret v=>exact r.elim
  | ret v=>
   cases fl with
   | next=>exact r.elim
   | ret av=>exact zE (.ret av) l3 σ3 r a3 F3 (st2'.trans st3) q3
  | brk=>cases fl<;>exact r.elim
  | cont=>cases fl<;>exact r.elim
 | false=>
  exact wpAny_execs_nil (zE .next l1 σ2 trivial a2 F2 st2' q2)
end
inductive Tgt where
 | one (i:Nat)
 | many (is:List Nat)
noncomputable def zqu:List Nat->List AV->Loc->Loc
 | i::is,x::xs,l=>zqu is xs (l.set i (some x))
 | _,_,l=>l
noncomputable def jP:Tgt->AV->Loc->Option Loc
 | .one i,x,l=>some (l.set i (some x))
 | .many is,.tup xs,l=>if xs.length=is.length then some (zqu is xs l) else none
 | _,_,_=>none
def Sto(B:Addr->Prop)(env:Env)(x:Str):Prop:=(env.kindOf x=some .local/\∀b,b=env.locals->B b)\/(env.kindOf x=some .cell/\∀b,FB env b->B b)
theorem zfJ{X:Cx}{env:Env}{nm:List (Str×Nat)}{l:Loc}{O:AHeap}{s:Shared}{B:Addr->Prop}{M:Model}{A:Around}{E:Value->Shared->Prop}{x:Str}{i:Nat}{av:AV}{v:Value}{Q:Unit->Shared->Prop}(EO:EnvOk env)(F:FR X env nm l O s.heap)(a:At X O s)
  (hx:nm.lookup x=some i)(hk:Sto B env x)(hv:RepV O s.heap av v)
  (h:∀s',FR X env nm (l.set i (some av)) O s'.heap->At X O s'->Step B O s O s'->Q () s'):wpAny M A (storeName env x v) Q E s:=by
 rcases hk with⟨hk,hB⟩|⟨hk,hB⟩
 .exact zfK EO F a hx hk hv λs' F' a' st=>h s' F' a' (st.weaken hB)
 .exact zeM EO F a hx (.inr hk) hv λs' F' a' st=>h s' F' a' (st.weaken hB)
theorem zsJ{env:Env}{x:Str}(hk:env.kindOf x=some .local\/env.kindOf x=some .cell):Sto (FB env) env x:=hk.imp (λh=>⟨h,λ_ h=>.inl h⟩) λh=>⟨h,λ_ h=>h⟩
def zaB(B:Addr->Prop)(X:Cx)(env:Env)(nm:List (Str×Nat))(target:Expr)(t:Tgt):Prop:=
 ∀d A l l' O s x v (Q:Unit->Shared->Prop) E,Live X d A->d.hd=false->At X O s->FR X env nm l O s.heap->RepV O s.heap x v->jP t x l=some l'->
  (∀s',FR X env nm l' O s'.heap->At X O s'->Step B O s O s'->Q () s')->wpAny X.M A (assign target env v) Q E s
theorem zjM{B:Addr->Prop}{X:Cx}{env:Env}{nm:List (Str×Nat)}{x:Str}{pos:Pos}{i:Nat}(EO:EnvOk env)(hx:nm.lookup x=some i)(hk:Sto B env x) :
  zaB B X env nm (.Name x pos) (.one i):=λd A l l' O s y v Q E L hd a F r hb h=>by
 cases hb;exact wpAny_assign_Name (zfJ EO F a hx hk r h)
structure ItOk(X:Cx)(A:Around)(target:Expr)(it:Value)(I:AHeap->Prop)(xs:List AV)(W:Addr->Prop)(St:Nat->AHeap->Heap->Prop):Prop where
 stable:∀i O h O' h',St i O h->KeepV O h O' h'->(∀b o,W b->h.get? b=some o->h'.get? b=some o)->St i O' h'
 there:∀i O h b,St i O h->W b->∃o,h.get? b=some o/\¬qu o/\(∀es n,o.data≠.dict es n)/\(∀v,o.data≠.cell v)
 item:∀i x O s (Q:Value->Shared->Prop) (Qn:Option Value->Shared->Prop) E,(∀v s1,wpAny X.M A (letOwnedTupleGo target it v) (λ_ s'=>Q v s') E s1->Qn (some v) s1)->
  xs[i]? = some x->At X O s->I (vis O)->St i O s.heap->(∀b,W b->O b=none/\X.h₀.get? b=none)->
  (∀v s',RepV O s'.heap x v->At X O s'->Step W O s O s'->St (i+1) O s'.heap->Q v s')->wpAny X.M A (pyNext it) Qn E s
 done:∀O s (Q:Option Value->Shared->Prop) E,At X O s->I (vis O)->St xs.length O s.heap->(∀b,W b->O b=none/\X.h₀.get? b=none)->
  (∀s',At X O s'->Step W O s O s'->Q none s')->wpAny X.M A (pyNext it) Q E s
 self:∀i O s (Q:Value->Shared->Prop) E,St i O s.heap->Q it s->wpAny X.M A (pyIter it) Q E s
noncomputable def zhd(I:AHeap->Prop)(t:Tgt)(body:AS)(d:Dp)(Q:zN):List AV->Loc->AHeap->Prop
 | [],l,O=>Q .next l O
 | x::xs,l,O=>∃l',jP t x l=some l'/\body d l' (A.wN I (zhd I t body d Q xs) Q) A.noX O
section
variable{X:Cx}{env:Env}{nm:List (Str×Nat)}{A:Around}{O:AHeap}{s:Shared}
theorem znn{d:Dp}{target:Expr}{t:Tgt}{body:List Stmt}{m:AS}{it:Value}{I:AHeap->Prop}{xs:List AV}{W:Addr->Prop}{St:Nat->AHeap->Heap->Prop}{l:Loc}{Q:zN}{R:Result->Shared->Prop}
  (L:Live X d A)(hd:d.hd=false)(IT:ItOk X A target it I xs W St)(ht:zaB (FB env) X env nm target t)(hb:qp X env nm body m)(hW:∀b,W b->O b=none/\X.h₀.get? b=none)
  (a0:At X O s)(F:FR X env nm l O s.heap)(hI:I (vis O))(hSt:St 0 O s.heap)(h:zhd I t m d Q xs l (vis O))
  (hR:∀f s',(∃fl l' O',zrb O' s'.heap fl f/\At X O' s'/\FR X env nm l' O' s'.heap/\Step (λb=>FB env b\/W b) O s O' s'/\Q fl l' (vis O'))->R (.ok f) s') :
  Hj X.M A (.forLoop target it body [] env) R s:=by
 refine codeAny_forLoop_any (λk s1=>∃i l1 σ1,k=xs.length+1-i/\i<=xs.length/\At X σ1 s1/\FR X env nm l1 σ1 s1.heap/\Step (λb=>FB env b\/W b) O s σ1 s1/\I (vis σ1)/\St i σ1 s1.heap/\
  (∀b,W b->σ1 b=none/\X.h₀.get? b=none)/\zhd I t m d Q (xs.drop i) l1 (vis σ1)) ?_ (xs.length+1) (zdX 0 l O rfl (fV _) a0 F (.refl ..) hI hSt hW h)
 intro k s1 hR2;refine zdG hR2 λi l1 σ1 e3_3 hi a1 F1 st1 hI1 hSt1 hW1 hf=>?_;subst e3_3;have noW:NoStay W s1.heap:=λb o hb e=>by refine zj (IT.there i _ _ b hSt1 hb) λo' e' h' _=>?_;rw[e] at e';obtain rfl:=Hx e';exact h'
 have ndW:∀{i O h b o},St i O h->W b->h.get? b=some o->∀es n,o.data≠.dict es n:=λ{i O h b o} hs hb e=>by
  refine zy (IT.there i _ _ b hs hb) λo' e' _ h1 _=>?_;rw[e] at e';obtain rfl:=Hx e';exact h1
 have dis:∀b,FB env b->¬W b:=λb hb hw=>by
  refine zy (IT.there i _ _ b hSt1 hw) λo' e' _ h1 h2=>?_
  rcases hb with rfl|⟨x,hx⟩
  .refine zb F1.ns λ_ h16_1 _=>?_;refine jh h16_1 λo es ep ho hd _=>?_;rw[ho] at e';obtain rfl:=Hx e';exact h1 _ _ hd
  .refine zbN (F1.outc x b hx) λ_ _ v o ho hd=>?_;rw[ho] at e';obtain rfl:=Hx e';exact h2 _ hd
 cases hx:xs[i]? with
 | none=>
  have hil:i=xs.length:=fAH hi (fB3.mp hx);subst hil;refine IT.done σ1 s1 _ _ a1 hI1 hSt1 hW1 λs2 a2 st2=>?_;refine wpAny_execs_nil (hR _ _ (zE .next l1 σ1 trivial a2 (F1.stepB a1 st2 dis noW) (st1.trans (st2.weaken λb hb=>.inr hb)) ?_));rw[fBZ] at hf;exact hf
 | some x=>
  have hlt:i<xs.length:=(fX.mp hx).1;have hdr:xs.drop i=x::xs.drop (i+1):=by
   rw[pB hlt,(fX.mp hx).2]
  rw[hdr] at hf;refine zb hf λl2 hb2 hf=>?_;refine IT.item i x σ1 s1 _ _ _ (λv s2 hr=>hr) hx a1 hI1 hSt1 hW1 λv s2 rv a2 st2 hSt2=>?_
  .have F2:=F1.stepB a1 st2 dis noW;have noF:=F2.noStay;refine ht d A l1 l2 σ1 s2 x v _ _ L hd a2 F2 rv hb2 λs3 F3 a3 st3=>?_;have hSt3:St (i+1) σ1 s3.heap:=IT.stable _ _ _ _ _ hSt2 (st3.keepV a2 noF) λb o hb e=>st3.keep b o e (hW1 b hb).1 (λq=>dis b q hb) (ndW hSt2 hb e);refine G9 (hb d A l2 σ1 s3 _ _ L a3 F3 hf) (λf s4 hpx=>?_) λ_ _ x=>zt1 x;refine jX hpx λfl l4 σ4 r a4 F4 st4 q4=>?_;have stA:Step (λb=>FB env b\/W b) O s σ4 s4:=st1.trans ((st2.weaken λb hb=>.inr hb).trans ((st3.weaken λb hb=>.inl hb).trans (st4.weaken λb hb=>.inl hb)));cases f with
   | next=>
    cases fl with
    | next=>
     obtain⟨hI4,hf4⟩:=q4;refine zcs (xs.length+1-(i+1)) (zqZ hlt) (i+1) l4 σ4 rfl hlt a4 F4 stA hI4 (IT.stable _ _ _ _ _ hSt3 (st4.keepV a3 F3.noStay) (λb o hb e=>st4.keep b o e (hW1 b hb).1 (λq=>dis b q hb) (ndW hSt3 hb e))) (λb hb=>⟨by refine zb (IT.there _ _ _ b hSt3 hb) λo ho _=>?_;exact st4.gone ho (hW1 b hb).1,(hW1 b hb).2⟩) hf4
    | ret v=>exact r.elim
   | ret v=>
    cases fl with
    | next=>exact r.elim
    | ret av=>exact hR _ _ (zE (.ret av) l4 σ4 r a4 F4 stA q4)
   | brk=>cases fl<;>exact r.elim
   | cont=>cases fl<;>exact r.elim
end
section
variable{X:Cx}{O:AHeap}{s:Shared}{W:Addr->Prop}{h':Heap}
theorem At.moved(a:At X O s)(t:Nat)(hW:∀b,W b->O b=none/\X.h₀.get? b=none)(nW:NoStay W s.heap)(nd:∀b o,W b->s.heap.get? b=some o->∀es n,o.data≠.dict es n)(hk:∀b o,¬W b->s.heap.get? b=some o->h'.get? b=some o) :
  At X O { s with heap:=h',toks:=t }:=by
 have kv:KeepV O s.heap O h':=.mk' λb o e st=>hk b o (λq=>nW b o q e st) e;refine⟨λb o e=>hk b o (λq=>?_) (a.keep b o e),λb ao e=>(a.rep b ao e).mono kv λo ho=>hk b o (λq=>?_) ho,a.own,a.gens,a.os,λL hL=>⟨(a.ff L hL).1,?_⟩⟩
 .rw[(hW b q).2] at e;exact absurd (Eq.symm e) (fN _)
 .rw[(hW b q).1] at e;exact absurd (Eq.symm e) (fN _)
 .refine jy ((a.ff L hL).2) λo es n e d=>?_;exact zag o es n (hk L o (λq=>nd L o q e es n d) e) d
theorem Step.moved(O:AHeap)(t:Nat)(hk:∀b o,¬W b->s.heap.get? b=some o->h'.get? b=some o)(hsz:s.heap.objs.size<=h'.objs.size):Step W O s O { s with heap:=h',toks:=t }:=
 .same (λb o e h=>hk b o h e) hsz
end
def Plain(o:Obj):Prop:=¬qu o/\(∀es n,o.data≠.dict es n)/\(∀v,o.data≠.cell v)
theorem Plain.wD{o:Obj}{T:String}{vs:Array Value}(hc:o.cls = .type T)(hd:o.data = .fields vs)(h2:T≠"range"):Plain o:=by
 refine zp ?_ (λes n h=>?_) (λv h=>?_)
 rotate_left
 .rw[hd] at h;cases h
 .rw[hd] at h;cases h
 rintro(⟨h,_,_,h'⟩|⟨h,_⟩|⟨c,vs,h,_⟩)
 .rw[hd] at h';cases h'
 .rw[hc] at h;cases h;exact h2 rfl
 .rw[hc] at h;cases h
section
variable{X:Cx}{A:Around}{target:Expr}
theorem zaq{M:Model}{it:Addr}{v:Value}{o:Obj}{T:String}{vs:Array Value}{s:Shared}{Q:Unit->Shared->Prop}{E:Value->Shared->Prop}(ho:s.heap.get? it=some o)(hc:o.cls = .type T)(hd:o.data = .fields vs)
  (hT:["enumerate","zip","dict_itemiterator","dict_reverseitemiterator","odict_iterator","itertools.zip_longest","itertools.pairwise"].contains T=false)(h:Q () s) :
  wpAny M A (letOwnedTupleGo target (.ref it) v) Q E s:=by
 have go:wpAny M A (letOwnedTupleGo (.List [] ⟨0,0,0,0⟩) (.ref it) v) Q E s:=by
  cases v with
  | ref a=>
   refine G7 (wpAny_load ho ?_);rw[hc,hd];dsimp only;rw[hT];rw[Bool.false_and,if_neg (by decide)];exact G8 h
  | _=>exact G8 h
 cases target with
 | Tuple _ _ _=>exact go
 | List _ _=>exact go
 | _=>exact G8 h
inductive IsL(O:AHeap):AV->List AV->Prop
 | ref {a:Addr} {xs:List AV}:vis O a=some (.list xs)->IsL O (.ref a) xs
 | lst {xs:List AV}:IsL O (.lst xs) xs
theorem At.isList0{O:AHeap}{s:Shared}(a:At X O s){b:Addr}{xs:List AV}(h:O b=some (.list xs)\/O b=some (.frz xs)):∃vs:List Value,s.heap.IsList b vs.toArray/\RepVs O s.heap xs vs/\xs.length<=1000000:=by
 rcases h with h|h
 .refine zl (a.rep b _ h) λvs n e r hl=>?_;exact zt vs (qc _ e rfl n rfl) r hl
 .refine zj (a.rep b _ h) λvs e r hl=>?_;exact zt vs e r hl
theorem At.isList{O:AHeap}{s:Shared}(a:At X O s){x:AV}{v:Value}{xs:List AV}(h:IsL O x xs)(r:RepV O s.heap x v):∃(b:Addr) (vs:List Value),v = .ref b/\(O b=some (.list xs)\/O b=some (.frz xs))/\s.heap.IsList b vs.toArray/\RepVs O s.heap xs vs/\xs.length<=1000000:=by
 cases h with
 | @ref b _ h=>
  obtain rfl:=RepV.wM r;have h':=(zB h).1;refine zj (a.isList0 (.inl h')) λvs h1 h2 h3=>?_;exact⟨b,vs,rfl,.inl h',h1,h2,h3⟩
 | lst=>
  refine zb (RepV.wQ r) λb e4_1 h'=>?_;subst e4_1;refine zj (a.isList0 (.inr h')) λvs h1 h2 h3=>?_;exact ja b vs rfl (.inr h') h1 h2 h3
def zd1(x:AV)(xs:List AV)(O:AHeap):Prop:=match x with
 | .ref b=>O b=some (.list xs)
 | _=>True
def stL(x:AV)(b:Addr)(xs:List AV)(O:AHeap):Prop:=match x with
 | .ref c=>c=b
 | _=>O b=some (.frz xs)
theorem At.ofSt{O:AHeap}{s:Shared}(a:At X O s){x:AV}{b:Addr}{xs:List AV}(h:zd1 x xs (vis O))(h':stL x b xs O):∃vs:List Value,s.heap.IsList b vs.toArray/\RepVs O s.heap xs vs:=by
 have:O b=some (.list xs)\/O b=some (.frz xs):=by
  cases x with
  | ref c=>have h':c=b:=h';subst h';exact .inl (zB h).1
  | _=>exact .inr h'
 refine zj (a.isList0 this) λvs h1 h2 _=>?_;exact zd vs h1 h2
theorem stL.mono{O O':AHeap}{h h':Heap}(k:KeepV O h O' h'){x:AV}{b:Addr}{xs:List AV}(q:stL x b xs O):stL x b xs O':=by
 cases x with
 | ref c=>exact q
 | _=>exact k.frz _ _ q
theorem zlw(hh:A.handled=none)(it b:Addr)(x:AV)(xs:List AV):ItOk X A target (.ref it) (zd1 x xs) xs (λc=>c=it) (λi O h=>h.IsListIter it b i/\stL x b xs O) where
 stable:=λi O h O' h' hp kv k=>qj hp λh1 q=>zb h1 λo ho r=>⟨⟨o,k _ _ rfl ho,r⟩,q.mono kv⟩
 there:=λi O h c hp e=>qj hp λh1 _=>zj h1 λo ho hc hd=>by subst e;exact⟨o,ho,Plain.wD hc hd (by decide)⟩
 item:=λi x O s Q Qn E hQn hx a hI hSt hW h=>by
  obtain⟨hSt,hq⟩:=hSt;refine zb (a.ofSt hI hq) λvs hl rv=>?_;refine zb (rv.get hx) λv hv r=>?_;refine zj (id hSt) λo ho hc hd=>?_;have nW:NoStay (λc=>c=it) s.heap:=λc o' e e'=>by subst e;rw[ho] at e';obtain rfl:=Hx e';exact(Plain.wD hc hd (by decide)).1
  have nd:∀b o,b=it->s.heap.get? b=some o->∀es n,o.data≠.dict es n:=λc o' e e'=>by subst e;rw[ho] at e';obtain rfl:=Hx e';exact(Plain.wD hc hd (by decide)).2.1
  refine wpAny_pyNext_list_item hSt hl (by simpa using hv) λh' hit' hs'=>hQn v _ ?_;refine zj (id hit') λo' ho' hc' hd'=>?_;have hk:∀c o,¬c=it->s.heap.get? c=some o->h'.get? c=some o:=λc o hc e=>(hs'.2 c hc).trans e;have kv:KeepV O s.heap O h':=.mk' λc o' e st=>hk c o' (λq=>nW c o' q e st) e;exact zaq ho' hc' hd' (by decide) (h v { s with heap:=h' } (r.mono kv) (a.moved (t:=s.toks) hW nW nd hk) (Step.moved O s.toks hk (pF hs'.1.symm)) ⟨hit',hq⟩)
 done:=λO s Q E a hI hSt hW h=>by
  obtain⟨hSt,hq⟩:=hSt;refine zb (a.ofSt hI hq) λvs hl rv=>?_;refine zj (id hSt) λo ho hc hd=>?_;have nW:NoStay (λc=>c=it) s.heap:=λc o' e e'=>by subst e;rw[ho] at e';obtain rfl:=Hx e';exact(Plain.wD hc hd (by decide)).1
  have nd:∀b o,b=it->s.heap.get? b=some o->∀es n,o.data≠.dict es n:=λc o' e e'=>by subst e;rw[ho] at e';obtain rfl:=Hx e';exact(Plain.wD hc hd (by decide)).2.1
  refine zD (wpAny_pyNext_list_end hh hSt hl (by simp[rv.length]) λh' he' hsz=>?_);have hk:∀c o,¬c=it->s.heap.get? c=some o->h'.get? c=some o:=λc o hc e=>he' c o hc e;exact h { s with heap:=h' } (a.moved (t:=s.toks) hW nW nd hk) (Step.moved O s.toks hk hsz)
 self:=λi O s Q E hSt h=>wpAny_pyIter_listiter hSt.1 h
theorem zjf(hh:A.handled=none)(it b:Addr)(xs:List AV):ItOk X A target (.ref it) (λ_=>True) xs (λc=>c=it) (λi O h=>h.IsTupleIter it b i/\∃vs:List Value,h.IsTuple b vs.toArray/\RepVs O h xs vs) where
 stable:=λi O h O' h' hp kv k=>qj hp λh1 h2=>zb h1 λo ho r=>zb h2 λvs ht rv=>⟨⟨o,k _ _ rfl ho,r⟩,vs,kv.tup ht,rv.mono kv⟩
 there:=λi O h c hp e=>qj hp λh1 _=>zj h1 λo ho hc hd=>by subst e;exact⟨o,ho,Plain.wD hc hd (by decide)⟩
 item:=λi x O s Q Qn E hQn hx a hI hSt hW h=>by
  refine qN hSt λhit vs hl rv=>?_;refine zb (rv.get hx) λv hv r=>?_;refine zj (id hit) λo ho hc hd=>?_;have nW:NoStay (λc=>c=it) s.heap:=λc o' e e'=>by subst e;rw[ho] at e';obtain rfl:=Hx e';exact(Plain.wD hc hd (by decide)).1
  have nd:∀b o,b=it->s.heap.get? b=some o->∀es n,o.data≠.dict es n:=λc o' e e'=>by subst e;rw[ho] at e';obtain rfl:=Hx e';exact(Plain.wD hc hd (by decide)).2.1
  refine wpAny_pyNext_tuple_item hit hl (by simpa using hv) λh' hit' hs'=>hQn v _ ?_;refine zj (id hit') λo' ho' hc' hd'=>?_;have hk:∀c o,¬c=it->s.heap.get? c=some o->h'.get? c=some o:=λc o hc e=>(hs'.2 c hc).trans e;have kv:KeepV O s.heap O h':=.mk' λc o' e st=>hk c o' (λq=>nW c o' q e st) e;exact zaq ho' hc' hd' (by decide) (h v { s with heap:=h' } (r.mono kv) (a.moved (t:=s.toks) hW nW nd hk) (Step.moved O s.toks hk (pF hs'.1.symm))
   (kt hit' vs (kv.tup hl) (rv.mono kv)))
 done:=λO s Q E a hI hSt hW h=>by
  refine qN hSt λhit vs hl rv=>?_;refine zj (id hit) λo ho hc hd=>?_;have nW:NoStay (λc=>c=it) s.heap:=λc o' e e'=>by subst e;rw[ho] at e';obtain rfl:=Hx e';exact(Plain.wD hc hd (by decide)).1
  have nd:∀b o,b=it->s.heap.get? b=some o->∀es n,o.data≠.dict es n:=λc o' e e'=>by subst e;rw[ho] at e';obtain rfl:=Hx e';exact(Plain.wD hc hd (by decide)).2.1
  refine zD (wpAny_pyNext_tuple_end hh hit hl (by simp[rv.length]) λh' he' hsz=>?_);have hk:∀c o,¬c=it->s.heap.get? c=some o->h'.get? c=some o:=λc o hc e=>he' c o hc e;exact h { s with heap:=h' } (a.moved (t:=s.toks) hW nW nd hk) (Step.moved O s.toks hk hsz)
 self:=λi O s Q E hSt h=>wpAny_pyIter_tupleiter hSt.1 h
noncomputable def zhq(lo:Int):Nat->List AV
 | 0=>[]
 | n+1=>.int lo::zhq (lo+1) n
theorem zcL:∀(n:Nat) (lo:Int),(zhq lo n).length=n
 | 0,_=>rfl
 | n+1,lo=>by simp[zhq,zcL n]
theorem znC(n:Nat):∀(lo:Int) (i:Nat),(zhq lo n)[i]? = if i<n then some (.int (lo+i)) else none:=by
 induction n with
 | zero=>exact λ_ i=>rfl
 | succ n ih=>
  intro lo i;cases i with
  | zero=>rw[if_pos (fCH _),Int.ofNat_zero,fDN];rfl
  | succ i=>
   refine(ih (lo+1) i).trans ?_;rw[show lo+1+(i:Int)=lo+((i+1:Nat):Int) from y97]
   by_cases h:i<n
   .rw[if_pos h,if_pos (zz3 h)]
   .rw[if_neg h,if_neg (zAA h)]
theorem zje(hh:A.handled=none)(it:Addr)(lo:Int)(n:Nat):ItOk X A target (.ref it) (λ_=>True) (zhq lo n) (λc=>c=it) (λi O h=>IsRangeIter h it (lo+i) ((n:Int)-i) 1) where
 stable:=λi O h O' h' ho _ k=>k _ _ rfl ho
 there:=λi O h c ho e=>by subst e;exact zd _ ho (Plain.wD rfl rfl (by decide))
 item:=λi x O s Q Qn E hQn hx a hI hSt hW h=>by
  rw[znC] at hx
  by_cases hi:i<n
  .simp only[hi,if_true,Option.some.injEq] at hx;subst hx;have nW:NoStay (λc=>c=it) s.heap:=λc o' e e'=>by subst e;rw[hSt] at e';obtain rfl:=Hx e';exact(Plain.wD (T:="range_iterator") rfl rfl (by decide)).1
   have nd:∀b o,b=it->s.heap.get? b=some o->∀es n,o.data≠.dict es n:=λc o' e e'=>by subst e;rw[hSt] at e';obtain rfl:=Hx e';exact(Plain.wD (T:="range_iterator") rfl rfl (by decide)).2.1
   refine wpAny_pyNext_range_item hSt (zAn hi) λh' hit' hs'=>hQn _ _ ?_;have hk:∀c o,¬c=it->s.heap.get? c=some o->h'.get? c=some o:=λc o hc e=>(hs'.2 c hc).trans e;have hit'':IsRangeIter h' it (lo+((i+1:Nat):Int)) ((n:Int)-((i+1:Nat):Int)) 1:=by
    have e1:lo+((i+1:Nat):Int)=lo+(i:Int)+1:=y98;have e2:(n:Int)-((i+1:Nat):Int)=(n:Int)-(i:Int)-1:=zAF;rw[e1,e2];exact hit'
   exact zaq hit' rfl rfl (by decide) (h _ { s with heap:=h',toks:=s.toks+1 } (.int _ _) (a.moved (t:=s.toks+1) hW nW nd hk) (Step.moved O (s.toks+1) hk (pF hs'.1.symm)) hit'')
  .simp[hi] at hx
 done:=λO s Q E a hI hSt hW h=>by
  rw[zcL] at hSt;have nW:NoStay (λc=>c=it) s.heap:=λc o' e e'=>by subst e;rw[hSt] at e';obtain rfl:=Hx e';exact(Plain.wD (T:="range_iterator") rfl rfl (by decide)).1
  have nd:∀b o,b=it->s.heap.get? b=some o->∀es n,o.data≠.dict es n:=λc o' e e'=>by subst e;rw[hSt] at e';obtain rfl:=Hx e';exact(Plain.wD (T:="range_iterator") rfl rfl (by decide)).2.1
  refine zD (wpAny_pyNext_range_end hh hSt zzj λh' he' hsz=>?_);have hk:∀c o,¬c=it->s.heap.get? c=some o->h'.get? c=some o:=λc o hc e=>he' c o hc e;exact h { s with heap:=h' } (a.moved (t:=s.toks) hW nW nd hk) (Step.moved O s.toks hk hsz)
 self:=λi O s Q E hSt h=>wpAny_pyIter_rangeiter hSt h
noncomputable def zbP(k:Nat):List AV->List AV
 | []=>[]
 | x::xs=>.tup [.int k,x]::zbP (k+1) xs
theorem zbQ:∀(xs:List AV) (k:Nat),(zbP k xs).length=xs.length
 | [],_=>rfl
 | _::xs,k=>by simp[zbP,zbQ xs]
theorem ze9:∀(xs:List AV) (k i:Nat),(zbP k xs)[i]? = xs[i]?.map λx=>.tup [.int ((k+i:Nat):Int),x]
 | [],_,i=>rfl
 | x::xs,k,0=>rfl
 | x::xs,k,i+1=>by
  simp only[zbP,fAX,ze9 xs];have:k+1+i=k+(i+1):=zmE;rw[this]
theorem zlv(hh:A.handled=none){elts:List Expr}{x1:Nat}{pos:Pos}(e it b:Addr)(hne:e≠it)(x:AV)(xs:List AV) :
  ItOk X A (.Tuple elts x1 pos) (.ref e) (zd1 x xs) (zbP 0 xs) (λc=>c=e\/c=it) (λi O h=>h.IsListIter it b i/\stL x b xs O/\∃old,IsEnum h e it i old) where
 stable:=λi O h O' h' ⟨⟨o,ho,r⟩,q,old,he⟩ kv k=>⟨⟨o,k _ _ (.inr rfl) ho,r⟩,q.mono kv,old,k _ _ (.inl rfl) he⟩
 there:=λi O h c ⟨⟨o,ho,hc,hd⟩,_,old,he⟩ q=>by
  rcases q with rfl|rfl
  .exact zd _ he (Plain.wD rfl rfl (by decide))
  .exact zd o ho (Plain.wD hc hd (by decide))
 item:=λi x O s Q Qn E hQn hx a hI hSt hW h=>by
  refine ko hSt λhit hq old he=>?_;refine zb (a.ofSt hI hq) λvs hl rv=>?_;rw[ze9] at hx;refine zb (pY.mp hx) λy hy e23_2=>?_;subst e23_2;refine zb (rv.get hy) λv hv r=>?_;refine zj (id hit) λo ho hc hd=>?_;have nW:NoStay (λc=>c=e\/c=it) s.heap:=λc o' q e'=>by
   rcases q with rfl|rfl
   .rw[he] at e';obtain rfl:=Hx e';exact(Plain.wD (T:="enumerate") rfl rfl (by decide)).1
   .rw[ho] at e';obtain rfl:=Hx e';exact(Plain.wD hc hd (by decide)).1
  have nd:∀b o,b=e\/b=it->s.heap.get? b=some o->∀es n,o.data≠.dict es n:=λc o' q e'=>by
   rcases q with rfl|rfl
   .rw[he] at e';obtain rfl:=Hx e';exact(Plain.wD (T:="enumerate") rfl rfl (by decide)).2.1
   .rw[ho] at e';obtain rfl:=Hx e';exact(Plain.wD hc hd (by decide)).2.1
  refine wpAny_pyNext_enum_item he hit hl (by simpa using hv) hne λh' he' hit' htup hsz hk=>hQn _ _ ?_;refine wpAny_letOwnedTupleGo_enum he' λh'' he'' hs''=>?_;have hk':∀c o,¬(c=e\/c=it)->s.heap.get? c=some o->h''.get? c=some o:=λc o hc eo=>by
   have h1:c≠e:=λq=>hc (.inl q);have h2:c≠it:=λq=>hc (.inr q);exact(hs''.2 c h1).trans (hk c o h1 h2 eo)
  have kv:KeepV O s.heap O h'':=.mk' λc o' e st=>hk' c o' (λq=>nW c o' q e st) e;have hes:s.heap.objs.size≠e:=fBI (Heap.lt_size he);have hit'':h''.IsListIter it b (i+1):=by
   refine zb hit' λo3 ho3 r3=>?_;exact zd o3 ((hs''.2 it (Ne.symm hne)).trans ho3) r3
  refine h (.ref s.heap.objs.size) { s with heap:=h'',toks:=s.toks+1 } (.tup (vs:=[.int i s.toks,v]) (by simp) (qc _ ((hs''.2 _ hes).trans htup) rfl 0 rfl) (.cons ?_ (.cons (r.mono kv) .nil)))
   (a.moved (t:=s.toks+1) hW nW nd hk') (Step.moved O (s.toks+1) hk' (by rw[hs''.1,hsz];exact zsU)) (zae hit'' hq v ?_)
  .have:((0+i:Nat):Int)=(i:Int):=by exact zzg
   rw[this];exact .int _ _
  .have:((i+1:Nat):Int)=(i:Int)+1:=by exact zzh
   exact he''
 done:=λO s Q E a hI hSt hW h=>by
  rw[zbQ] at hSt;refine ko hSt λhit hq old he=>?_;refine zb (a.ofSt hI hq) λvs hl rv=>?_;refine zj (id hit) λo ho hc hd=>?_;have nW:NoStay (λc=>c=e\/c=it) s.heap:=λc o' q e'=>by
   rcases q with rfl|rfl
   .rw[he] at e';obtain rfl:=Hx e';exact(Plain.wD (T:="enumerate") rfl rfl (by decide)).1
   .rw[ho] at e';obtain rfl:=Hx e';exact(Plain.wD hc hd (by decide)).1
  have nd:∀b o,b=e\/b=it->s.heap.get? b=some o->∀es n,o.data≠.dict es n:=λc o' q e'=>by
   rcases q with rfl|rfl
   .rw[he] at e';obtain rfl:=Hx e';exact(Plain.wD (T:="enumerate") rfl rfl (by decide)).2.1
   .rw[ho] at e';obtain rfl:=Hx e';exact(Plain.wD hc hd (by decide)).2.1
  refine zD (wpAny_pyNext_enum_end hh he hit hl (by simp[rv.length]) λh' he' hsz=>?_);have hk:∀c o,¬(c=e\/c=it)->s.heap.get? c=some o->h'.get? c=some o:=λc o hc e=>he' c o (λq=>hc (.inr q)) e;exact h { s with heap:=h' } (a.moved (t:=s.toks) hW nW nd hk) (Step.moved O s.toks hk hsz)
 self:=λi O s Q E hSt h=>by
  refine ko hSt λ_ _ old he=>?_;exact wpAny_pyIter_enum he h
end
noncomputable def cl1(cells:List (Str×Addr))(p:Str×NameKind)(acc:List (Str×Addr)):List (Str×Addr):=if p.2==.free then (match cells.lookup p.1 with|some c=>(p.1,c)::acc|none=>acc) else acc
noncomputable def clo(cells:List (Str×Addr))(names:List (Str×NameKind))(acc:List (Str×Addr)):List (Str×Addr):=names.foldl (λa p=>cl1 cells p a) acc
theorem zfW(cells:List (Str×Addr))(p:Str×NameKind)(acc:List (Str×Addr)):(cl1 cells p acc=acc/\(p.2 = .free->cells.lookup p.1=none))\/∃c,p.2 = .free/\cells.lookup p.1=some c/\cl1 cells p acc=(p.1,c)::acc:=by
 unfold cl1;cases hk:p.2==NameKind.free with
 | true=>
  cases hy:cells.lookup p.1 with
  | none=>exact .inl ⟨rfl,λ_=>rfl⟩
  | some c=>exact .inr ⟨c,H1 hk,rfl,rfl⟩
 | false=>exact .inl ⟨rfl,λe=>by rw[e] at hk;cases hk⟩
theorem zg1{env:Env}(f:Str×NameKind->List (Str×Addr)->Sem (ForInStep (List (Str×Addr))))
  (hf:∀n k cs,f (n,k) cs=if k==.free then (do let c <-cellOf env n;pure (.yield ((n,c)::cs))) else pure (.yield cs))(names:List (Str×NameKind)) :
  ∀(acc:List (Str×Addr)),(∀x,(x,NameKind.free)∈names->(env.cells.lookup x).isSome=true)->(forIn names acc f:Sem (List (Str×Addr)))=pure (clo env.cells names acc):=by
 induction names with
 | nil=>exact λ_ _=>rfl
 | cons p r ih=>
  intro acc h;have e:f p acc=pure (.yield (cl1 env.cells p acc)):=by
   refine(hf p.1 p.2 acc).trans ?_;unfold cl1;cases hk:p.2==NameKind.free with
   | false=>rfl
   | true=>
    obtain⟨c,hc⟩:=fBC.mp (h p.1 (by rw[<-H1 hk];exact fB));unfold cellOf;rw[hc];rfl
  rw[List.forIn_cons,e];exact ih _ λy hy=>h y (fA _ hy)
theorem zaD{scope:Scope}{env:Env}(h:∀x,(x,NameKind.free)∈scope.names->(env.cells.lookup x).isSome=true):closureFor scope env=pure (clo env.cells scope.names []):=by
 unfold closureFor;simp only[bind_pure_comp];rw[zg1 (env:=env) _ (λn k cs=>?_) scope.names [] h]
 .rfl
 .simp
theorem zkf{cells:List (Str×Addr)}(names:List (Str×NameKind)):∀(acc:List (Str×Addr)) {x:Str} {c:Addr},(x,c)∈clo cells names acc->(x,c)∈acc\/(cells.lookup x=some c/\(x,NameKind.free)∈names):=by
 induction names with
 | nil=>exact λ_ _ _ h=>.inl h
 | cons p r ih=>
  intro acc x c h
  rcases ih (cl1 cells p acc) h with q|q
  .rcases zfW cells p acc with e|⟨d,hk,hy,e⟩
   .rw[e.1] at q;exact .inl q
   .rw[e] at q
    rcases fM.mp q with e|q
    .have e1:x=p.1:=congrArg Prod.fst e;have e2:c=d:=congrArg Prod.snd e;rw[e1,e2,<-hk];exact .inr ⟨hy,fB⟩
    .exact .inl q
  .exact .inr ⟨q.1,fA _ q.2⟩
theorem zpj{cells:List (Str×Addr)}(names:List (Str×NameKind)):∀(acc:List (Str×Addr)) {p:Str×Addr},p∈acc->p∈clo cells names acc:=by
 induction names with
 | nil=>exact λ_ _ h=>h
 | cons q r ih=>
  intro acc p h
  rcases zfW cells q acc with e|⟨d,_,_,e⟩
  .exact ih (cl1 cells q acc) (e.1.symm▸h)
  .exact ih (cl1 cells q acc) (e▸fA _ h)
theorem zi1{cells:List (Str×Addr)}{x:Str}{c:Addr}(hc:cells.lookup x=some c)(names:List (Str×NameKind)):∀(acc:List (Str×Addr)),(x,NameKind.free)∈names->(x,c)∈clo cells names acc:=by
 induction names with
 | nil=>exact λ_ h=>nomatch h
 | cons p r ih=>
  intro acc h
  rcases fM.mp h with e|h
  .subst e;refine zpj r _ ?_;show _∈(match cells.lookup x with|some c=>(x,c)::acc|none=>acc);rw[hc];exact fB
  .exact ih _ h
theorem zlg{cells:List (Str×Addr)}(hp:cells.Pairwise λx y=>x.2≠y.2)(names:List (Str×NameKind)):∀(acc:List (Str×Addr)),(names.map (·.1)).Nodup->(∀x∈acc,cells.lookup x.1=some x.2/\x.1∉names.map (·.1))->
  (acc.Pairwise λx y=>x.2≠y.2)->(clo cells names acc).Pairwise λx y=>x.2≠y.2:=by
 induction names with
 | nil=>exact λ_ _ _ h=>h
 | cons p r ih=>
  intro acc hn ha h;have hn':=fT.mp hn;have ha':∀x∈acc,cells.lookup x.1=some x.2/\x.1∉r.map (·.1):=λx hx=>⟨(ha x hx).1,λq=>(ha x hx).2 (fA _ q)⟩
  refine ih (cl1 cells p acc) hn'.2 ?_ ?_
  .rcases zfW cells p acc with e|⟨d,_,hy,e⟩
   .rw[e.1];exact ha'
   .rw[e];exact fR.mpr ⟨⟨hy,hn'.1⟩,ha'⟩
  .rcases zfW cells p acc with e|⟨d,_,hy,e⟩
   .rw[e.1];exact h
   .rw[e];refine gJ.mpr ⟨λq hq e=>?_,h⟩;have h1:=(ha q hq).1;rw[<-show d=q.2 from e] at h1;exact(ha q hq).2 (name_of_addr hp (mem_of_lookup hy) (mem_of_lookup h1)▸fB)
structure CompOk(sc:List (Str×NameKind))(nm:List (Str×Nat))(N:Nat)(names:List (Str×NameKind))(nm':List (Str×Nat))(k:Nat):Prop where
 nodup:(names.map (·.1)).Nodup
 kinds:∀x kd,(x,kd)∈names->kd = .local\/kd = .globalImplicit\/(kd = .free/\sc.lookup x=some .cell/\∃i,nm.lookup x=some i/\nm'.lookup x=some i)
 vars:∀x i,nm'.lookup x=some i->(names.lookup x=some .local/\N<=i/\i<N+k)\/(names.lookup x=some .free/\nm.lookup x=some i)
 inj:∀x y i,nm'.lookup x=some i->nm'.lookup y=some i->x=y
 len:qV nm'=N+k
theorem qX{J:Type}:∀{l:List (Str×J)} {n:Str} {c:J},l.lookup n=some c->(n,c)∈l:=mem_of_lookup
theorem jB{J:Type}{r:List (Str×J)}{n k:Str}{v:J}(h:n≠k):List.lookup n ((k,v)::r)=r.lookup n:=by rw[pN,beq_eq_false_iff_ne.mpr h]
theorem jV{J:Type}{l:List (Str×J)}{n:Str}{c:J}:(l.map (·.1)).Nodup->(n,c)∈l->l.lookup n=some c:=by
 induction l with
 | nil=>exact λ_ h=>nomatch h
 | cons p r ih=>
  intro hn h;have hn':=fT.mp hn
  rcases fM.mp h with e|h
  .rw[<-e,pN,beq_self_eq_true]
  .exact(jB λe:n=p.1=>hn'.1 (show p.1∈_ from e▸gN (f:=(·.1)) h)).trans (ih hn'.2 h)
section
variable{X:Cx}{env:Env}{nm nm':List (Str×Nat)}{l:Loc}{O:AHeap}{s:Shared}{scope:Scope}{N k:Nat}
theorem zcd(EO:EnvOk env)(CK:CompOk env.scope.names nm N scope.names nm' k)(cl:List (Str×Addr))(C:Addr)(x:Str) :
  (scope.names.lookup x=some .local->(compEnvC scope cl C env).kindOf x=some .local)/\(scope.names.lookup x=some .free->(compEnvC scope cl C env).kindOf x=some .cell):=by
 have gen:∀(names:List (Str×NameKind)),(∀x,(x,NameKind.free)∈names->env.kindOf x=some .cell)->
   (names.lookup x=some .local->(names.map λ(n,k)=>if (k==NameKind.free&&env.scope.kind==.function&&env.kindOf n==some .cell) then (n,NameKind.cell) else (n,k)).lookup x=some .local)/\
   (names.lookup x=some .free->(names.map λ(n,k)=>if (k==NameKind.free&&env.scope.kind==.function&&env.kindOf n==some .cell) then (n,NameKind.cell) else (n,k)).lookup x=some .cell):=by
  intro names
  induction names with
  | nil=>intro _;exact⟨λh=>by simp at h,λh=>by simp at h⟩
  | cons p r ih=>
   intro hk;obtain⟨n,kd⟩:=p;have ih':=ih λy hy=>hk y (fA _ hy);simp only[gM,pN]
   by_cases hx:(x==n)=true
   .have hxn:=beq_iff_eq.mp hx;subst hxn;simp only[beq_self_eq_true];refine⟨λh=>?_,λh=>?_⟩
    .obtain rfl:=Hx h;simp
    .obtain rfl:=Hx h;have:=hk x fB;simp[EO.kind,this]
   .have hx':(x==n)=false:=by simpa using hx
    simp only[hx']
    by_cases hc:(kd==NameKind.free&&env.scope.kind==.function&&env.kindOf n==some .cell)=true
    .rw[if_pos hc,pN,hx'];exact ih'
    .rw[if_neg hc,pN,hx'];exact ih'
 refine gen scope.names λy hy=>?_
 rcases CK.kinds y .free hy with h|h|⟨_,h,_⟩
 .cases h
 .cases h
 .exact h
theorem CompOk.closure(F:FR X env nm l O s.heap)(CK:CompOk env.scope.names nm N scope.names nm' k):∀x,(x,NameKind.free)∈scope.names->(env.cells.lookup x).isSome=true:=λx hx=>by
 rcases CK.kinds x .free hx with h|h|⟨_,h,i,hi,_⟩
 .cases h
 .cases h
 .refine jq (F.cell x i hi h) λc v hc _=>?_;rw[hc];rfl
theorem zi5(EO:EnvOk env)(CK:CompOk env.scope.names nm N scope.names nm' k)(hk:scope.kind = .function)(C:Addr):EnvOk (compEnvC scope (clo env.cells scope.names []) C env) where
 kind:=hk
 glob:=EO.glob
 bi:=EO.bi
 apart:=zlg EO.apart _ _ CK.nodup (λ_ h=>nomatch h) .nil
theorem zpu(EO:EnvOk env)(F:FR X env nm l O s.heap)(hl:l.length=N)(CK:CompOk env.scope.names nm N scope.names nm' k){h':Heap}{C:Addr}(hk:∀b o,s.heap.get? b=some o->h'.get? b=some o)
  (hC:h'.Ns C λ_=>none)(hσC:O C=none)(hCnew:X.h₀.get? C=none) :
  FR X (compEnvC scope (clo env.cells scope.names []) C env) nm' (l++List.replicate k none) O h':=by
 have kv:KeepV O s.heap O h':=.ext hk;refine⟨(zd _ hC (λx i hx hkx=>?_)),λx i hx hkx=>?_,⟨hσC,hCnew⟩,⟨λx i hx=>?_,CK.inj⟩,by rw[fF,fBO,hl,CK.len],λx c hx=>?_⟩
 .rcases CK.vars x i hx with⟨_,h1,h2⟩|⟨h1,_⟩
  .have:(l++List.replicate k none).getD i none=none:=by
    rw[fQ,gI (by exact zq3 hl h1),List.getElem?_replicate];split<;>rfl
   rw[this];trivial
  .rw[(zcd EO CK _ C x).2 h1] at hkx;cases hkx
 .rcases CK.vars x i hx with⟨h1,_⟩|⟨h1,h2⟩
  .rw[(zcd EO CK _ C x).1 h1] at hkx;cases hkx
  .have hm:=qX h1
   rcases CK.kinds x .free hm with h|h|⟨_,h,_⟩
   .cases h
   .cases h
   .refine zl (F.cell x i h2 h) λc v hc hcc hr=>?_;refine zI c v ?_ (hcc.keeps hk) ?_
    .have h3:(x,c)∈clo env.cells scope.names []:=zi1 hc _ _ hm;cases h4:(clo env.cells scope.names []).lookup x with
     | none=>
      exfalso;have:=List.lookup_eq_none_iff.mp h4 (x,c) h3;simp at this
     | some c'=>
      rcases zkf _ _ (qX h4) with q|⟨q,_⟩
      .cases q
      .rw[hc] at q;obtain rfl:=Hx q;exact h4
    .have hi:i<l.length:=F.nmok.1 x i h2;rw[fQ,pC hi,<-fQ];exact hr.mono kv
 .rw[fF,fBO,hl]
  rcases CK.vars x i hx with⟨_,h1,h2⟩|⟨_,h2⟩
  .exact zwN h2
  .have:=F.nmok.1 x i h2;exact zE3 hl this
 .rcases zkf _ _ hx with q|⟨q,_⟩
  .cases q
  .refine ko (F.outc x c (qX q)) λh1 h2 v h3=>?_;exact zae h1 h2 v (h3.keeps hk)
end
def zrx(c:Option AE)(d:Dp)(l:Loc)(Q:Bool->AHeap->Prop)(O:AHeap):Prop:=
 match c with
 | none=>Q true O
 | some m=>m d l (isB Q) (λ_ _=>False) O
noncomputable def zaE(I:AHeap->Prop)(t:Tgt)(c:Option AE)(elt:AE)(d:Dp)(Q:List AV->AHeap->Prop):List AV->List AV->Loc->AHeap->Prop
 | [],acc,l,O=>Q acc O
 | x::xs,acc,l,O=>∃l',jP t x l=some l'/\zrx c d l' (λok σ1=>cB ok (elt d l' (λv σ2=>I σ2/\acc.length<1000000/\zaE I t c elt d Q xs (acc++[v]) l' σ2) (λ_ _=>False) σ1)
   (I σ1/\zaE I t c elt d Q xs acc l' σ1)) O
noncomputable def zfL(X:Cx)(env:Env)(nm:List (Str×Nat)):List Expr->Option AE->Prop
 | [],none=>True
 | [e],some m=>qz X env nm e m
 | _,_=>False
theorem za0(vs:List Value)(n:Nat):¬qu (zJ vs n):=by
 rintro(⟨h,_⟩|⟨h,_⟩|⟨_,_,h,_⟩)<;>simp[zJ] at h
theorem zb3(vs:List Value)(n:Nat):∀es m,(zJ vs n).data≠.dict es m:=λ_ _=>nofun
theorem ltA{h:Heap}{a:Nat}{o:Obj}(e:h.get? a=some o):a<h.objs.size:=Heap.lt_size e
theorem neA{a b:Nat}(h:¬a=b):¬a=b:=h
theorem leA{a b:Nat}(h:a<=b):a<=b:=h
section
variable{X:Cx}{A:Around}
theorem zeO{elt target iter:Expr}{ifs:List Expr}{scope:Scope}{pos:Pos}{it acc:Value}{env:Env}{R:Result->Shared->Prop}{s:Shared}(Ja:Nat->Shared->Prop)
  (turn:∀n s,Ja n s->wpAny X.M A (pyNext it) (λr s₁=>match r with
   | none=>R (.ok .next) s₁
   | some v=>wpAny X.M A (letOwnedTupleGo target it v) (λ_ s₁'=>wpAny X.M A (assign target env v) (λ_ s₂=>
     wpAny X.M A (forIn ifs true λc r=>if r=true then do let ok <-isTrue c env (eval c env);pure (ForInStep.yield ok) else pure (ForInStep.yield r)) (λok s₃=>
      if ok=true then wpAny X.M A (eval elt env) (λx s₄=>wpAny X.M A (call (.builtin "list.append") [acc,x]) (λ_ s₅=>∃m,m<n/\Ja m s₅) (λ_ _=>False) s₄) (λ_ _=>False) s₃
      else ∃m,m<n/\Ja m s₃) (λ_ _=>False) s₂) (λ_ _=>False) s₁') (λ_ _=>False) s₁) (λ_ _=>False) s)
  (n:Nat)(h:Ja n s):Hj X.M A (.compLoop (.ListComp elt [⟨target,iter,ifs,0⟩] scope pos) 0 it acc env) R s:=by
 refine codeAny_loop rfl Ja (λn s hI=>?_) n h;show wpAny _ A ((compTurn (.ListComp elt [⟨target,iter,ifs,0⟩] scope pos) 0 it acc env).onRaise (λx=>do noteFrame x env;theTreesLotGoes x)) _ _ s;refine wpAny_noted ?_;rw[compTurn_list];refine G7 (Hh (G7 (G9 (turn n s hI) (λr s₁ h₁=>?_) λ_ _ h'=>h'.elim)));cases r with
 | none=>exact G8 h₁
 | some v=>
  refine G7 (G9 h₁ (λ_ s₁' h₁'=>?_) λ_ _ h'=>h'.elim);refine G7 (G9 h₁' (λ_ s₂ h₂=>G7 (G9 h₂ (λok s₃ h₃=>?_) λ_ _ h'=>h'.elim)) λ_ _ h'=>h'.elim);cases ok with
  | false=>exact G8 ⟨rfl,h₃⟩
  | true=>
   exact G7 (G7 (G9 h₃ (λx s₄ h₄=>G7 (G9 h₄ (λ_ s₅ h₅=>G8 (G8 ⟨rfl,h₅⟩)) λ_ _ h'=>h'.elim)) λ_ _ h'=>h'.elim))
theorem zis{env:Env}{nm:List (Str×Nat)}{ifs:List Expr}{c:Option AE}{d:Dp}{l:Loc}{O:AHeap}{s:Shared}{Q:Bool->AHeap->Prop}{R:Bool->Shared->Prop}(hc:zfL X env nm ifs c)(L:Live X d A)(a:At X O s)(F:FR X env nm l O s.heap)
  (h:zrx c d l Q (vis O))(k:∀b s',liftB X O s Q b s'->R b s') :
  wpAny X.M A (forIn ifs true λc r=>if r=true then do let ok <-isTrue c env (eval c env);pure (ForInStep.yield ok) else pure (ForInStep.yield r)) R (λ_ _=>False) s:=by
 match ifs,c,hc with
 | [],none,_=>exact wpAny_tests_nil (k _ _ (zt O a (.refl ..) h))
 | [e],some m,hc=>exact wpAny_tests_one (G9 (hc d A l O s Q (λ_ _=>False) L a F h) (λb s' x=>k b s' x) λ_ _ x=>noX x)
theorem At.adopt{O:AHeap}{s:Shared}(a:At X O s){D:Addr}{ao:AO}(hD:O D=none)(h0:X.h₀.get? D=none)(hL':D∉X.fr)(hr:KeepV O s.heap (O.set D ao) s.heap->RepA X (O.set D ao) s.heap D ao):At X (O.set D ao) s:=by
 have kv:KeepV O s.heap (O.set D ao) s.heap:=(KeepV.ext λ_ _ e=>e).set (zgm hD);refine⟨a.keep,λb bo e=>?_,λb bo e hro=>?_,a.gens,a.os,λL hL=>⟨?_,(a.ff L hL).2⟩⟩
 .by_cases hb:b=D
  .subst hb;rw[AHeap.wA] at e;obtain rfl:=Hx e;exact hr kv
  .rw[AHeap.wB _ _ hb] at e;exact(a.rep b bo e).mono kv λ_ h=>h
 .by_cases hb:b=D
  .subst hb;exact h0
  .rw[AHeap.wB _ _ hb] at e;exact a.own b bo e hro
 .rw[AHeap.wB _ _ (by rintro rfl;exact hL' hL)];exact(a.ff L hL).1
theorem Step.adopt{B:Addr->Prop}{O O':AHeap}{s s':Shared}(st:Step B O s O' s'){D:Addr}{ao:AO}(hD:O' D=none)(hn:s.heap.objs.size<=D):Step B O s (O'.set D ao) s':=
 ⟨st.keep,st.keepD,λb h1 h2=>by
  by_cases hb:b=D
  .rw[hb];exact hn
  .rw[AHeap.wB _ _ hb] at h1;exact st.fresh b h1 h2,st.size,λb xs e=>zdj (zgm hD) b xs (st.frz b xs e)⟩
theorem ze6{env:Env}{nm nm':List (Str×Nat)}{l:Loc}{O:AHeap}{s:Shared}{N k:Nat}{d:Dp}{elt target iter:Expr}{ifs:List Expr}{scope:Scope}{pos:Pos}{it:Value}{I:AHeap->Prop}{xs:List AV}{W:Addr->Prop}
  {St:Nat->AHeap->Heap->Prop}{t:Tgt}{c:Option AE}{m:AE}{Q:List AV->AHeap->Prop}{RR:Value->Addr->Result->Shared->Prop}{E:Value->Shared->Prop}
  (EO:EnvOk env)(L:Live X d A)(hdd:d.hd=false)(a:At X O s)(F:FR X env nm l O s.heap)(hl:l.length=N)(CK:CompOk env.scope.names nm N scope.names nm' k)(hk:scope.kind = .function)
  (IT:ItOk X A target it I xs W St)(hSt:St 0 O s.heap)(hW:∀b,W b->O b=none/\X.h₀.get? b=none)(hI:I (vis O))
  (ht:∀C,zaB (λb=>b=C) X (compEnvC scope (clo env.cells scope.names []) C env) nm' target t)(hc:∀C,zfL X (compEnvC scope (clo env.cells scope.names []) C env) nm' ifs c)(hm:∀C,zg X (compEnvC scope (clo env.cells scope.names []) C env) nm' elt m)
  (h:zaE I t c m d Q xs [] (l++List.replicate k none) (vis O))
  (hRR:∀D C s' O' acc mC,D∉X.fr->s.heap.objs.size<=D->s.heap.objs.size<=C->D≠C->O' D=none->O' C=none->s'.heap.Ns C mC->(∃ys n,s'.heap.get? D=some (zJ ys n)/\RepVs O' s'.heap acc ys/\acc.length<=1000000)->At X O' s'->Step W O s O' s'->Q acc (vis O')->RR (.ref D) C (.ok .next) s') :
  wpAny X.M A (newList []) (λacc s₃=>wpAny X.M A (newFunctionEnv scope env.globals (clo env.cells scope.names []) [] env.qual none .none (some env)) (λcenv s₄=>
   Hj X.M A (.compStart (.ListComp elt [⟨target,iter,ifs,0⟩] scope pos) 0 it acc { cenv with scope:=relabel scope env }) (RR acc cenv.locals) s₄) E s₃) E s:=by
 have hcell:∀y∈scope.names,y.2≠.cell:=λy hy e=>by
  obtain⟨x,kd⟩:=y
  rcases CK.kinds x kd hy with h|h|⟨h,_⟩<;>(dsimp only at e;rw[h] at e;cases e)
 refine wpAny_newObj_type (wpAny_newFunctionEnv hcell (by intro y hy;simp at hy) (λh₁ hns₁ hsb₁=>?_) hk);dsimp only at hns₁ hsb₁ ⊢;generalize hH2:s.heap.push { cls:=.type "list",dict:=none,data:=.seq ([]:List Value).toArray }=H2 at hns₁ hsb₁ ⊢;generalize hDD:s.heap.objs.size=D;generalize hCC:H2.objs.size=C at hns₁ hsb₁ ⊢;have hCD:C=D+1:=by rw[<-hCC,<-hH2,Heap.size_push,hDD]
 have old:∀b o,s.heap.get? b=some o->h₁.get? b=some o:=λb o e=>by
  have hb:=ltA e;exact hsb₁.extBut b o (neA (zC0 hDD hCD hb)) (Heap.get?_push_of_some _ (hH2▸Heap.get?_push_of_some _ e))
 have hDobj:h₁.get? D=some (zJ [] 0):=by
  refine hsb₁.extBut _ _ (neA (zwA hCD)) (Heap.get?_push_of_some _ ?_);rw[<-hH2,<-hDD];exact Heap.get?_push_size _ rfl
 have hσ:∀b,D<=b->O b=none:=λb hb=>a.none_of_size (by rw[hDD];exact hb);have hDfr:D∉X.fr:=λq=>by
  refine zdD (a.ff D q) λ_ o _ _ e _=>?_;have:=ltA e;exact zws hDD this
 have hh₀:∀b,D<=b->X.h₀.get? b=none:=λb hb=>by
  cases e:X.h₀.get? b with
  | none=>rfl
  | some o=>have:=ltA (a.keep b o e);lia
 generalize hs1:({ s with heap:=h₁,toks:=s.toks+([]:List (Str×Value)).length }:Shared)=s1;have hs1h:s1.heap=h₁:=by rw[<-hs1]
 have hsz1:s1.heap.objs.size=C+1:=by rw[hs1h,hsb₁.1];simp[hCC]
 have kv1:KeepV O s.heap O s1.heap:=.ext λb o e=>by rw[hs1h];exact old b o e
 have a1:At X O s1:=by
  refine⟨λb o e=>by rw[hs1h];exact old b o (a.keep b o e),λb ao e=>(a.rep b ao e).mono kv1 λo ho=>by rw[hs1h];exact old b o ho,a.own,?_,?_,a.ffk λb o e=>by rw[hs1h];exact old b o e⟩
  .rw[<-hs1];exact a.gens
  .rw[<-hs1];exact a.os
 have F1:=zpu (X:=X) EO F hl CK (h':=s1.heap) (C:=C) (λb o e=>by rw[hs1h];exact old b o e) (by rw[hs1h];exact hns₁) (hσ C (zo8 hCD)) (hh₀ C (zo8 hCD));have hSt1:St 0 O s1.heap:=IT.stable _ _ _ _ _ hSt kv1 λb o _ e=>by rw[hs1h];exact old b o e
 let W':Addr->Prop:=λb=>W b\/D<=b
 have st1:Step W' O s O s1:=.same (λb o e _=>by rw[hs1h];exact old b o e) (by rw[hsz1,hDD];exact zAq hCD);have loop:Hj X.M A (.compLoop (.ListComp elt [⟨target,iter,ifs,0⟩] scope pos) 0 it (.ref D) (compEnvC scope (clo env.cells scope.names []) C env)) (RR (.ref D) C) s1:=by
  refine zeO (λj s2=>∃i l2 σ2 acc ys n,j=xs.length+1-i/\i<=xs.length/\At X σ2 s2/\FR X (compEnvC scope (clo env.cells scope.names []) C env) nm' l2 σ2 s2.heap/\Step W' O s σ2 s2/\I (vis σ2)/\St i σ2 s2.heap/\
   (∀b,W b->σ2 b=none/\X.h₀.get? b=none)/\σ2 D=none/\s2.heap.get? D=some (zJ ys n)/\RepVs σ2 s2.heap acc ys/\acc.length<=1000000/\C<s2.heap.objs.size/\zaE I t c m d Q (xs.drop i) acc l2 (vis σ2)) ?_ (xs.length+1)
   (zah 0 _ O [] [] 0 rfl (fV _) a1 F1 st1 hI hSt1 hW (hσ D (fO _)) (by rw[hs1h];exact hDobj) .nil (fV _) (zAo hsz1) h)
  intro j s2 hR1;refine k8 hR1 λi l2 σ2 acc ys n e1_6 hi a2 F2 st2 hI2 hSt2 hW2 hD2 hDo rys hacc2 hC2 hf=>?_;subst e1_6;have noW:NoStay W s2.heap:=λb o hb e=>by refine zj (IT.there i _ _ b hSt2 hb) λo' e' h' _=>?_;rw[e] at e';obtain rfl:=Hx e';exact h'
  have ndW:∀{i O h b o},St i O h->W b->h.get? b=some o->∀es n,o.data≠.dict es n:=λ{i O h b o} hs hb e=>by
   refine zy (IT.there i _ _ b hs hb) λo' e' _ h1 _=>?_;rw[e] at e';obtain rfl:=Hx e';exact h1
  have dis:∀b,FB (compEnvC scope (clo env.cells scope.names []) C env) b->¬W b:=λb hb hw=>by
   refine zy (IT.there i _ _ b hSt2 hw) λo' e' _ h1 h2=>?_
   rcases hb with hb|⟨x,hx⟩
   .refine zb F2.ns λ_ h5_1 _=>?_;refine jh h5_1 λo es ep ho hd _=>?_;rw[<-hb,e'] at ho;obtain rfl:=Hx ho;exact h1 _ _ hd
   .refine zbN (F2.outc x b hx) λ_ _ v o ho hd=>?_;rw[ho] at e';obtain rfl:=Hx e';exact h2 _ hd
  have disD:¬W D:=λhw=>by
   refine zb (IT.there 0 _ _ D hSt hw) λo' e' _=>?_;have:=ltA e';exact zws hDD this
  have hDF:¬FB (compEnvC scope (clo env.cells scope.names []) C env) D:=λhb=>by
   rcases hb with h|⟨x,hx⟩
   .have h:D=C:=h;exact zz4 hCD h
   .refine zbN (F2.outc x D hx) λ_ _ v o ho hd=>?_;rw[hDo] at ho;obtain rfl:=Hx ho;cases hd
  cases hx:xs[i]? with
  | none=>
   have hil:i=xs.length:=fAH hi (fB3.mp hx);subst hil;refine IT.done σ2 s2 _ _ a2 hI2 hSt2 hW2 λs3 a3 st3=>?_;rw[fBZ] at hf;refine zb ((F2.stepB a2 st3 dis noW).ns) λmC hmC _=>?_;have hDo3:s3.heap.get? D=some (zJ ys n):=st3.keep _ _ hDo hD2 disD (zb3 _ _);have kv3:KeepV σ2 s2.heap σ2 s3.heap:=st3.keepV a2 noW;have st3':Step W' O s σ2 s3:=st2.trans (st3.weaken λb hb=>.inl hb);have stF:Step W O s σ2 s3:=st3'.drop (B:=W) λb hb=>hb.imp id λq=>by rw[hDD];exact q
   exact hRR D C s3 σ2 acc mC hDfr (zwu hDD) (zBt hDD hCD) (zAp hCD) hD2 F2.out.1 hmC (zI ys n hDo3 (rys.mono kv3) hacc2) a3 stF hf
  | some x=>
   have hlt:i<xs.length:=(fX.mp hx).1;have hd:xs.drop i=x::xs.drop (i+1):=by rw[pB hlt,(fX.mp hx).2]
   rw[hd] at hf;refine zb hf λl3 hb3 hf=>?_;refine IT.item i x σ2 s2 _ _ _ (λv s3 hr=>hr) hx a2 hI2 hSt2 hW2 λv s3 rv a3 st3 hSt3=>?_;have F3:=F2.stepB a2 st3 dis noW;have hDo3:s3.heap.get? D=some (zJ ys n):=st3.keep _ _ hDo hD2 disD (zb3 _ _);have rys3:=rys.mono (st3.keepV a2 noW);refine ht C d A l2 l3 σ2 s3 x v _ _ L hdd a3 F3 rv hb3 λs4 F4 a4 st4=>?_;have noC:NoStay (λb=>b=C) s3.heap:=λb o hb e=>F3.noStay b o (.inl hb) e;have hDo4:s4.heap.get? D=some (zJ ys n):=st4.keep _ _ hDo3 hD2 (by show ¬D=C;exact zwA hCD) (zb3 _ _);have rys4:=rys3.mono (st4.keepV a3 noC);have hSt4:St (i+1) σ2 s4.heap:=IT.stable _ _ _ _ _ hSt3 (st4.keepV a3 noC) λb o hb e=>st4.keep b o e (hW2 b hb).1 (λq=>dis b (.inl q) hb) (ndW hSt3 hb e);refine zis (hc C) L a4 F4 hf λok s5 hpx=>?_;refine zj hpx λσ5 a5 st5 q5=>?_;have hD5:σ5 D=none:=st5.gone hDo4 hD2;have F5:=F4.step a4 st5;have hDo5:s5.heap.get? D=some (zJ ys n):=st5.keep _ _ hDo4 hD2 id (zb3 _ _);have rys5:=rys4.mono (st5.keepV0 a4);have out5:∀b,W b->σ5 b=none/\X.h₀.get? b=none:=λb hb=>⟨by refine zb (IT.there _ _ _ b hSt4 hb) λo ho _=>?_;exact st5.gone ho (hW2 b hb).1,(hW2 b hb).2⟩
   have hSt5:St (i+1) σ5 s5.heap:=IT.stable _ _ _ _ _ hSt4 (st5.keepV0 a4) λb o hb e=>st5.keep b o e (hW2 b hb).1 id (ndW hSt4 hb e);have stA5:Step W' O s σ5 s5:=st2.trans ((st3.weaken λb hb=>.inl hb).trans ((st4.weaken λb hb=>.inr (leA (by have hb:@Eq Nat b C:=hb;exact zBQ hCD (by assumption)))).trans (st5.weaken λb hb=>hb.elim)));have hC5:C<s5.heap.objs.size:=gP hC2 (fE st3.size (fE st4.size st5.size));cases ok with
   | false=>
    simp only[gC,if_false];exact jR (xs.length+1-(i+1)) (zqZ hlt) (i+1) l3 σ5 acc ys n rfl hlt a5 F5 stA5 q5.1 hSt5 out5 hD5 hDo5 rys5 hacc2 hC5 q5.2
   | true=>
    simp only[if_true];refine G9 (hm C d A l3 σ5 s5 _ _ L a5 F5 q5) (λy s6 hpx=>?_) λ_ _ x=>noX x;refine zdF hpx λav σ6 r6 a6 st6 hI6 hsz6 hf6=>?_;have hD6:σ6 D=none:=st6.gone hDo5 hD5;have F6:=F5.step a5 st6;have hDo6:s6.heap.get? D=some (zJ ys n):=st6.keep _ _ hDo5 hD5 id (zb3 _ _);have rys6:=rys5.mono (st6.keepV0 a5);have hSt6:St (i+1) σ6 s6.heap:=IT.stable _ _ _ _ _ hSt5 (st6.keepV0 a5) λb o hb e=>st6.keep b o e (out5 b hb).1 id (ndW hSt5 hb e);have out6:∀b,W b->σ6 b=none/\X.h₀.get? b=none:=λb hb=>⟨by refine zb (IT.there _ _ _ b hSt5 hb) λo ho _=>?_;exact st6.gone ho (out5 b hb).1,(hW2 b hb).2⟩
    refine wpAny_list_append_plain (items:=ys.toArray) ⟨n,hDo6⟩ (λh7 ⟨n7,hl7⟩ hs7=>?_) (by
     have:=rys6.length;rw[Hb];simp;exact zAl hsz6 this)
    have kv7:KeepV σ6 s6.heap σ6 h7:=.mk' λb o e stb=>by
     have hb:b≠D:=by rintro rfl;rw[hDo6] at e;obtain rfl:=Hx e;exact za0 _ _ stb
     exact(hs7.2 b hb).trans e
    have a7:At X σ6 { s6 with heap:=h7 }:=a6.aside (t:=s6.toks) (h':=h7) hD6 (hh₀ D (fO _)) (λo e=>by rw[hDo6] at e;obtain rfl:=Hx e;exact za0 _ _) (λq=>absurd q hDfr) hs7;have st7:Step (λb=>b=D) σ6 s6 σ6 { s6 with heap:=h7 }:=Step.aside (t:=s6.toks) (h':=h7) rfl hs7;have noD:NoStay (λb=>b=D) s6.heap:=λb o hb e=>by subst hb;rw[hDo6] at e;obtain rfl:=Hx e;exact za0 _ _
    have F7:=F6.stepB a6 st7 (λb hb q=>hDF (q▸hb)) noD;refine jR (xs.length+1-(i+1)) (zqZ hlt) (i+1) l3 σ6 (acc++[av]) (ys++[y]) n7 rfl hlt a7 F7 (stA5.trans ((st6.weaken λb hb=>hb.elim).trans (st7.weaken λb hb=>.inr (leA (by have hb:@Eq Nat b D:=hb;exact zs4 (by assumption)))))) hI6 (IT.stable _ _ _ _ _ hSt6 kv7 λb o hb e=>(hs7.2 b λq=>disD (q▸hb)).trans e) out6 hD6 ?_ ((rys6.mono kv7).append (.cons (r6.mono kv7) .nil)) (by rw[fF];exact hsz6) ?_ hf6
    .have:(ys.toArray.push y)=(ys++[y]).toArray:=by simp
     rw[this] at hl7;exact hl7
    .show C<h7.objs.size;rw[hs7.1];exact gP hC5 st6.size
 show Hj X.M A (.compStart (.ListComp elt [⟨target,iter,ifs,0⟩] scope pos) 0 it (.ref D) (compEnvC scope (clo env.cells scope.names []) C env)) (RR (.ref D) C) s1;exact codeAny_compStart_list loop (IT.self 0 O s1 _ _ hSt1 loop)
end
theorem RepVs.mem{O:AHeap}{h:Heap}{xs:List AV}{vs:List Value}(r:RepVs O h xs vs):∀v∈vs,∃x∈xs,RepV O h x v:=by
 induction xs generalizing vs with
 | nil=>obtain rfl:=RepVs.wG r;intro v hv;cases hv
 | cons y xs ih=>
  obtain⟨_,_,rfl,a,r⟩:=RepVs.wF r;intro v hv
  rcases fM.mp hv with e|hv
  .subst e;exact zd _ fB a
  .obtain⟨x,hx,q⟩:=ih r v hv;exact zd x (fA _ hx) q
section
variable{prog:Hi}{w:World}
def zdo(prog:Hi)(w:World)(h:Heap)(n:Nat)(v:Value)(x:Int)(dr:Nat):Prop:=
 ∀(A:Around) (E:Value->Shared->Prop) (s:Shared) (Q:Int->Shared->Prop),s.heap=h->A.units+n<cLine->Q x { s with toks:=s.toks+dr }->wpAny (model prog w) A (pyHash v) Q E s
inductive HashAll(prog:Hi)(w:World)(h:Heap)(n:Nat):List Value->List Int->Nat->Prop
 | nil:HashAll prog w h n [] [] 0
 | cons {v x dr vs xs drs}:zdo prog w h n v x dr->HashAll prog w h n vs xs drs->HashAll prog w h n (v::vs) (x::xs) (dr+drs)
theorem zi9{h:Heap}{n:Nat}(x:Str)(t:Tok):zdo prog w h n (.str x t) (hashStr w x) 1:=λA E s Q _ _ hq=>wpAny_pyHash_str hq
theorem zi8{h:Heap}{n:Nat}(x:Int)(t:Tok):zdo prog w h n (.int x t) (hashInt x) 1:=λA E s Q _ _ hq=>wpAny_pyHash_int hq
theorem zbV{h:Heap}{n:Nat}{a:Addr}{vs:List Value}{xs:List Int}{dr:Nat}(ht:IsTup h a vs.toArray)(hi:HashAll prog w h n vs xs dr):zdo prog w h (n+10) (.ref a) (reduceHash (Builtin.Tuple.tupleHashOf xs)) (dr+1):=λA E s Q hs hu hq=>by
 subst hs;refine jp ht λo ho hc m hd=>?_;have hT:s.TypeIs (.ref a) "tuple":=(zd o ho hc)
 first|unfold pyHashByItsType|skip
 first|refine G7 (wpAny_cRoomFor_or (.inr (zA3 hu)) ?_)|skip
 refine G7 (wpAny_specialOf hT F.slot_tuple_hash.lookup ?_);rw[if_neg (by rw[beq_builtin_none];exact pK)];refine G7 (wpAny_specialOf hT F.slot_tuple_hash.lookup ?_);refine G7 (wpAny_callSpecialIfBoundUnlessNone?_slot hT F.slot_tuple_hash (He F.slot_tuple_hash hT F.entry_tuple_hash ?_ (F.args_tuple_hash_1 _)));show wpAny _ _ (Builtin.Tuple.tupleItemsOf (.ref a) >>= _) _ _ s;refine G7 (wpAny_tupleItemsOf ho hd ?_);refine G7 ?_;rw[<-fCA];refine Hd _
  (λrest (b:Array Int) s'=>∃(left:List Int) (d1 d2:Nat),xs=b.toList++left/\HashAll prog w s.heap n rest left d2/\dr=d1+d2/\s'={ s with toks:=s.toks+d1 })
  _ ?_ ?_ _ _ (j3 xs 0 dr rfl hi (by simp) rfl)
 .intro v rest b s' hR1;refine za6 hR1 λleft d1 d2 hx hl hdr e2_6=>?_;subst e2_6;cases hl with
  | @cons _ x0 e1 _ xs' e2 h1 hl'=>
   refine G7 (h1 _ _ _ _ rfl ?_ ?_)
   .have:∀B:Around,B.units<=A.units+9->B.units+n<cLine:=λB hB=>by exact zCu hu hB
    exact this _ (by show A.units+_<=A.units+9;exact zzq)
   first
    | exact G8 (j3 xs' (d1+e1) e2 (by simp[hx]) hl' (zCH hdr) (by simp[fAU]))
    | exact G7 (G8 (G8 ⟨xs',d1+e1,e2,by simp[hx],hl',by lia,by simp[fAU]⟩))
 .intro b s' hR2;refine za6 hR2 λleft d1 d2 hx hl hdr e3_6=>?_;subst e3_6;cases hl;rw[gU] at hx;subst hdr;show wpAny _ _ (retInt (Builtin.Tuple.tupleHashOf b.toList)) _ _ _;rw[<-hx];refine wpAny_ret_mkInt ?_;show wpAny _ _ (if (decide (-(2:Int) ^ 63<=Builtin.Tuple.tupleHashOf xs)&&decide (Builtin.Tuple.tupleHashOf xs<2 ^ 63))=true then _ else _) Q E _;unfold reduceHash at hq
  by_cases hr:(decide (-(2:Int) ^ 63<=Builtin.Tuple.tupleHashOf xs)&&decide (Builtin.Tuple.tupleHashOf xs<2 ^ 63))=true
  .rw[if_pos hr];rw[if_pos hr] at hq;exact G8 (by simpa [fAU] using hq)
  .rw[if_neg hr];rw[if_neg hr] at hq;exact G7 (Hc (G8 (by simpa [fAU] using hq)))
end
section
variable{prog:Hi}{w:World}
def zbJ(prog:Hi)(w:World)(h:Heap)(k:Nat)(v:Value):Prop:=
 ∀(A:Around) (E:Value->Shared->Prop) (s:Shared) (Q:Bool->Shared->Prop),s.heap=h->Q true s->wpAny (model prog w) A (eqIsQuiet k v) Q E s
theorem zh0{h:Heap}{k:Nat}{v:Value}(hv:carriedByValue v=true):zbJ prog w h k v:=λA E s Q _ hq=>by
 rw[eqIsQuiet_byValue _ hv];exact G8 hq
theorem zbp{h:Heap}{k:Nat}{a:Addr}{vs:List Value}(ht:IsTup h a vs.toArray)(hi:∀v∈vs,zbJ prog w h k v):zbJ prog w h (k+1) (.ref a):=λA E s Q hs hq=>by
 subst hs;refine jp ht λo ho hc m hd=>?_;have hT:s.TypeIs (.ref a) "tuple":=(zd o ho hc)
 unfold eqIsQuiet;refine G7 (wpAny_specialOf hT F.slot_tuple_eq.lookup ?_);refine G7 (wpAny_isInstance hT isSubtype_tuple_tuple ?_);simp only[fB6,gC,if_false];refine G7 (wpAny_seqItems ho hd ?_);refine G7 ?_;rw[<-fCA];refine Hd _ (λrest r s'=>r.1=none/\s'=s/\∀v∈rest,zbJ prog w s.heap k v) _ ?_ ?_ _ _ (zp rfl rfl hi)
 .intro v rest r s' hR3;refine jb hR3 λhr e4_1 hall=>?_;subst e4_1;refine G7 (hall v fB _ _ _ _ rfl ?_);simp only[fB6,gC,if_false];exact G8 (zp rfl rfl (λu hu'=>hall u (fA _ hu')))
 .intro hR4;obtain⟨r1,r2⟩:=hR4;intro s' hR5;refine jb hR5 λhr e6_1 _=>?_;subst e6_1;simp only at hr;subst hr;exact G8 hq
end
noncomputable def mkD(m:zc):PyData:=.tuple [.str (zu m.1.toNat),.int m.2]
section
variable{prog:Hi}{w:World}{O:AHeap}{h:Heap}
theorem zhM{m:zc}{v:Value}(r:RepV O h (zT m) v):∃a t u,v = .ref a/\IsTup h a [Value.str (zu m.1.toNat) t,.int m.2 u].toArray/\(zT m=zT m/\2<=1000000/\m.1.toNat<kU):=by
 refine zh (RepV.wH r) λa vs z1 hl ht rs=>?_;refine zl (RepVs.wF rs) λv1 us z2 r1 rs=>?_;refine zl (RepVs.wF rs) λv2 us2 z3 r2 rs=>?_;refine zb (RepV.wJ r1) λt z4 hn=>?_;refine jo (RepV.wC r2) λu z5=>?_;have z6:=RepVs.wG rs;subst z6 z5 z4 z3 z2;exact⟨a,t,u,z1,ht,rfl,hl,hn⟩
theorem qW{m:zc}{v:Value}(r:RepV O h (zT m) v):∃a t u,v = .ref a/\IsTup h a [Value.str (zu m.1.toNat) t,.int m.2 u].toArray:=
 jh (zhM r) λa t u z ht _=>zag a t u z ht
theorem zlM{m:zc}{v:Value}(r:RepV O h (zT m) v):zdo prog w h 10 v (mkH w m) 3:=by
 refine jy (qW r) λa t u e5_3 ht=>?_;subst e5_3;exact zbV (n:=0) ht (.cons (zi9 _ _) (.cons (zi8 _ _) .nil))
theorem zjq{m:zc}{v:Value}(r:RepV O h (zT m) v):zbJ prog w h 7 v:=by
 refine jy (qW r) λa t u e6_3 ht=>?_;subst e6_3;refine zbp ht λv hv=>zh0 ?_;simp at hv
 rcases hv with rfl|rfl<;>rfl
theorem zjF{ms:List zc}{vs:List Value}(r:RepVs O h (ms.map zT) vs):HashAll prog w h 10 vs (ms.map (mkH w)) (3*ms.length):=by
 induction ms generalizing vs with
 | nil=>obtain rfl:=RepVs.wG r;exact .nil
 | cons m ms ih=>
  refine zl (RepVs.wF r) λ_ _ z1 r0 rs=>?_;subst z1
  .have:=HashAll.cons (zlM (prog:=prog) (w:=w) r0) (ih rs);have e:3*(m::ms).length=3+3*ms.length:=by simp;exact zzm
   rw[e];exact this
theorem zfi{a:Addr}{vs us:List Value}(h1:IsTup h a vs.toArray)(h2:IsTup h a us.toArray):vs=us:=by
 refine jp h1 λo ho hc n hd=>?_;refine jp h2 λo' ho' hc' n' hd'=>?_;rw[ho] at ho';obtain rfl:=Hx ho';rw[hd] at hd';injection hd' with e;simpa using e
theorem zn6{O':AHeap}{m:zc}{v:Value}(r:RepV O h (zT m) v):RepV O' h (zT m) v:=by
 refine jh (zhM r) λa t u z ht q=>?_;subst z;exact .tup q.2.1 ht (.cons (.str q.2.2 t) (.cons (.int _ u) .nil))
theorem zlN{O':AHeap}{ms:List zc}{vs:List Value}(r:RepVs O h (ms.map zT) vs):RepVs O' h (ms.map zT) vs:=by
 induction ms generalizing vs with
 | nil=>obtain rfl:=RepVs.wG r;exact .nil
 | cons m ms ih=>refine zl (RepVs.wF r) λ_ _ z1 r0 rs=>?_;subst z1;exact .cons (zn6 r0) (ih rs)
theorem zcg{O':AHeap}{ms:List zc}{v:Value}(r:RepV O h (zx ms) v):RepV O' h (zx ms) v:=by
 refine zh (RepV.wH r) λ_ _ e10_2 hl ht rs=>?_;subst e10_2;exact .tup hl ht (zlN rs)
theorem zn7{m m':zc}{v:Value}(r:RepV O h (zT m) v)(r':RepV O h (zT m') v):m=m':=by
 refine jy (qW r) λa t u e11_3 ht=>?_;subst e11_3;refine jy (qW r') λa' t' u' e ht'=>?_;cases e;have:=zfi ht ht';simp at this;exact Prod.ext (side_inj.mp this.1.1) this.2.1
theorem zoz{xs ys:List zc}{vs:List Value}(r:RepVs O h (xs.map zT) vs)(r':RepVs O h (ys.map zT) vs):xs=ys:=by
 induction xs generalizing ys vs with
 | nil=>obtain rfl:=RepVs.wG r;cases ys with
  | nil=>rfl
  | cons _ _=>exact zl (RepVs.wF r') λ_ _ z _ _=>nomatch z
 | cons x xs ih=>
  refine zl (RepVs.wF r) λ_ _ z1 r0 rs=>?_;subst z1
  .cases ys with
   | nil=>exact nomatch RepVs.wG r'
   | cons y ys=>refine zl (RepVs.wF r') λ_ _ z1 r' rs'=>?_;obtain⟨rfl,rfl⟩:=List.cons.inj z1;rw[zn7 r0 r',ih rs rs']
theorem jv{ms:List zc}{v:Value}(r:RepV O h (zx ms) v):∃a vs,v = .ref a/\IsTup h a vs.toArray/\RepVs O h (ms.map zT) vs:=by
 refine zh (RepV.wH r) λa vs e13_2 hl ht rs=>?_;subst e13_2;exact zI a vs rfl ht rs
theorem zjr{m:zc}{v:Value}(r:RepV O h (zT m) v):Reads h v (mkD m) []:=by
 refine zg7 (qW r) λa t u e14_3 o ho hc n hd=>?_;subst e14_3;exact .tuple ho hc hd (.cons (.str _ _) (.cons (.int _ _) .nil))
theorem zhN{ms:List zc}{vs:List Value}(r:RepVs O h (ms.map zT) vs):ReadsAll h vs (ms.map mkD) []:=by
 induction ms generalizing vs with
 | nil=>obtain rfl:=RepVs.wG r;exact .nil
 | cons m ms ih=>refine zl (RepVs.wF r) λ_ _ z1 r0 rs=>?_;subst z1;exact ReadsAll.cons (as:=[]) (bs:=[]) (zjr r0) (ih rs)
theorem zfy{ms:List zc}{v:Value}(r:RepV O h (zx ms) v):Reads h v (.tuple (ms.map mkD)) []:=by
 refine zl (jv r) λa vs e15_2 h15_3 rs=>?_;subst e15_2;refine jp h15_3 λo ho hc n hd=>?_;exact .tuple ho hc hd (zhN rs)
theorem zqa(m m':zc):PyData.eqv (mkD m) (mkD m')=decide (m=m'):=by
 obtain⟨a,b⟩:=m;obtain⟨c,d⟩:=m';simp[mkD,PyData.eqv,PyData.eqvAll,Prod.ext_iff]
 by_cases h1:a=c<;>by_cases h2:b=d<;>simp[h1,h2,side_inj]
theorem zqq(xs ys:List zc):PyData.eqvAll (xs.map mkD) (ys.map mkD)=decide (xs=ys):=by
 induction xs generalizing ys with
 | nil=>cases ys with
  | nil=>rfl
  | cons y ys=>simp[PyData.eqvAll]
 | cons x xs ih=>cases ys with
  | nil=>simp[PyData.eqvAll]
  | cons y ys=>
   simp only[gM,PyData.eqvAll,zqa,ih,List.cons.injEq]
   by_cases h1:x=y<;>by_cases h2:xs=ys<;>simp[h1,h2]
theorem zkN(ms:List zc):PyData.canLayAll0 (ms.map mkD)=true/\PyData.depthAll (ms.map mkD)<=5:=by
 induction ms with
 | nil=>exact⟨rfl,by simp[PyData.depthAll]⟩
 | cons m ms ih=>
  have h1:PyData.strOk (zu m.1.toNat)=true:=zil (zgB _);refine⟨by simp[PyData.canLayAll0,mkD,PyData.canLay0,h1,ih.1],?_⟩;have:=ih.2;simp[PyData.depthAll,mkD,PyData.depth];lia
end
noncomputable def zss:AHeap:=λ_=>none
noncomputable def kl(prog:Hi)(w:World):HeapKind prog w (List zc) where
 is:=λh ms a=>RepV zss h (zx ms) (.ref a)
 hash:=zt9 w
 draws:=λms=>3*ms.length+1
 room:=λA=>A.units+100<cLine
 inj:=λhx hy=>by
  refine zl (jv hx) λa vs e ht rs=>?_;refine zl (jv hy) λa' vs' e' ht' rs'=>?_;cases e;cases e';have:=zfi ht ht';subst this;exact zoz rs rs'
 keeps:=λx ho hd hs=>x.mono (.mk' λb o e st=>by
  refine(hs.2 b ?_).trans e;rintro rfl;rw[ho] at e;obtain rfl:=Hx e;exact zaZ hd st)
 pyHash:=λhu hk hq=>by
  refine zl (jv hk) λa vs e ht rs=>?_;cases e;exact zbV (n:=10) ht (zjF rs) _ _ _ _ rfl (zzQ hu) hq
 eqBool:=λhu hx hy hq=>by
  rename_i k1 k2 _ _ _
  have l1:=zkN k1;have l2:=zkN k2;refine eqAt_reads _ _ _ _ _ _ _ _ (zfy hx) (zfy hy) (by simpa [PyData.canLay0] using l1.1) (by simpa [PyData.canLay0] using l2.1) ?_ _ _ _ _ ?_
  .simp only[PyData.depth];have:=l1.2;have:=l2.2
   lia
  .simp only[PyData.eqv,zqq];exact hq
 quiet:=λhk hq=>by
  refine zl (jv hk) λa vs e ht rs=>?_;cases e;refine zbp (k:=7) ht (λv hv=>?_) _ _ _ _ rfl hq;refine zb (rs.mem v hv) λx hx rx=>?_;refine zb (fG.mp hx) λm _ e23_2=>?_;subst e23_2;exact zjq rx
abbrev Tab:=List (List zc×AV)
noncomputable def Tab.at(kvs:Tab)(k:List zc):Option AV:=(kvs.find? λx=>decide (x.1=k)).map (·.2)
noncomputable def Tab.put(kvs:Tab)(k:List zc)(v:AV):Tab:=if (kvs.at k).isSome then kvs.map (λx=>if x.1=k then (x.1,v) else x) else kvs++[(k,v)]
inductive TX(O:AHeap)(h:Heap):List (List zc×Addr×Value)->Tab->Prop
 | nil:TX O h [] []
 | cons {k:List zc} {a:Addr} {v:Value} {x:AV} {xs kvs}:RepV O h (zx k) (.ref a)->RepV O h x v->TX O h xs kvs->TX O h ((k,a,v)::xs) ((k,x)::kvs)
section
variable{prog:Hi}{w:World}{O O':AHeap}{h h':Heap}
theorem TX.keys{xs:List (List zc×Addr×Value)}{kvs:Tab}(t:TX O h xs kvs):xs.map (·.1)=kvs.map (·.1):=by
 induction t with
 | nil=>rfl
 | cons _ _ _ ih=>rw[gM,gM,ih]
theorem TX.length{xs:List (List zc×Addr×Value)}{kvs:Tab}(t:TX O h xs kvs):xs.length=kvs.length:=by
 have:=congrArg List.length t.keys;rwa [fC,fC] at this
theorem TX.mono(k:KeepV O h O' h'){xs:List (List zc×Addr×Value)}{kvs:Tab}(t:TX O h xs kvs):TX O' h' xs kvs:=by
 induction t with
 | nil=>exact .nil
 | cons a b _ ih=>exact .cons (a.mono k) (b.mono k) ih
theorem TX.of{kvs:Tab}{es:List DictEntry}(t:RepT w O h kvs es):∃xs,TX O h xs kvs/\es=xs.map (entryOfKey (kl prog w)):=by
 induction t with
 | nil=>exact⟨[],.nil,rfl⟩
 | @cons k x r e es a b c _ ih=>
  refine zb ih λxs h1 h2=>?_;refine zl (jv a) λad vs ea _ _=>?_;obtain⟨eh,ek,ev⟩:=e;simp only at ea a b c;subst ea;exact zd ((k,ad,ev)::xs) (.cons a b h1) (by rw[h2,gM];congr 1;simp only[entryOfKey];rw[c];rfl)
theorem TX.to{xs:List (List zc×Addr×Value)}{kvs:Tab}(t:TX O h xs kvs):RepT w O h kvs (xs.map (entryOfKey (kl prog w))):=by
 induction t with
 | nil=>exact .nil
 | cons a b _ ih=>exact .cons a b rfl ih
theorem TX.at_{k:List zc}{xs:List (List zc×Addr×Value)}{kvs:Tab}(t:TX O h xs kvs):(atKey xs k=none/\Tab.at kvs k=none)\/∃p x,atKey xs k=some p/\Tab.at kvs k=some x/\RepV O h x p.2:=by
 induction t with
 | nil=>exact .inl ⟨rfl,rfl⟩
 | @cons k' a v x xs kvs ra rb r ih=>
  unfold atKey Tab.at at ih ⊢
  by_cases hk:k'=k
  .refine .inr (zI (a,v) x ?_ ?_ rb)<;>rw[pX,Hz hk]<;>rfl
  .rw[pX,pX,Hy hk];exact ih
theorem TX.snoc{k:List zc}{a:Addr}{v:Value}{x:AV}(ra:RepV O h (zx k) (.ref a))(rb:RepV O h x v){xs:List (List zc×Addr×Value)}{kvs:Tab}(t:TX O h xs kvs):TX O h (xs++[(k,a,v)]) (kvs++[(k,x)]):=by
 induction t with
 | nil=>exact .cons ra rb .nil
 | cons p q _ ih=>exact .cons p q ih
theorem TX.over{k:List zc}{v:Value}{x:AV}(rb:RepV O h x v){xs:List (List zc×Addr×Value)}{kvs:Tab}(t:TX O h xs kvs):TX O h (xs.map (putAt k v)) (kvs.map λy=>if y.1=k then (y.1,x) else y):=by
 induction t with
 | nil=>exact .nil
 | @cons k' a' v' _ xs kvs p q r ih=>
  rw[gM,gM];unfold putAt at ih ⊢
  by_cases hk:k'=k
  .rw[if_pos hk,if_pos hk];exact .cons p rb ih
  .rw[if_neg hk,if_neg hk];exact .cons p q ih
theorem TX.put{k:List zc}{a:Addr}{v:Value}{x:AV}(ra:RepV O h (zx k) (.ref a))(rb:RepV O h x v){xs kvs}(t:TX O h xs kvs):TX O h (storedH xs k a v) (Tab.put kvs k x):=by
 unfold Tab.put
 rcases t.at_ (k:=k) with⟨h1,h2⟩|⟨p,y,h1,h2,_⟩
 .rw[storedH_new h1,h2];exact t.snoc ra rb
 .rw[storedH_old h1,h2];exact t.over rb
end
section
variable{X:Cx}{O:AHeap}{s:Shared}{d:Addr}{kvs:Tab}
theorem At.tab(a:At X O s)(e:O d=some (.tdict kvs)):∃xs,s.heap.DictOfH (kl X.prog X.w) d xs/\TX O s.heap xs kvs:=by
 refine zq (a.rep _ _ e) λes n ho rt nd hl _=>?_;refine zb (TX.of (prog:=X.prog) rt) λxs h1 h2=>?_;refine zd xs (zaP _ es n ho (zp rfl rfl rfl) rfl h2 (λx hx=>?_) (by rw[h1.keys];exact nd)) h1;clear nd hl ho e;clear h2 rt
 induction h1 with
 | nil=>cases hx
 | cons ra rb r ih=>
  rcases fM.mp hx with rfl|hx
  .exact zcg ra
  .exact ih hx
theorem At.tabNe(a:At X O s)(e:O d=some (.tdict kvs)):(d==sysModules)=false:=by
 refine zq (a.rep _ _ e) λes n ho rt nd hl h=>?_;exact h
theorem Tab.wW(kvs:Tab)(k:List zc)(v:AV):(kvs.put k v).length<=kvs.length+1:=by
 unfold Tab.put;split<;>simp
theorem ziq{h':Heap}{xs:List (List zc×Addr×Value)}{k:List zc}{ad:Addr}{x:AV}{v:Value}(a:At X O s)(e:O d=some (.tdict kvs))(tx:TX O s.heap xs kvs)(rk:RepV O s.heap (zx k) (.ref ad))(rv:RepV O s.heap x v)(hl:kvs.length<1000000){O':AHeap}(kv:KeepV O s.heap O' h')
  (hD':h'.DictOfH (kl X.prog X.w) d (storedH xs k ad v)):RepA X O' h' d (.tdict (kvs.put k x)):=by
 refine jc hD' λo es ep ho h8_4 hd he hi hn=>?_;obtain⟨hc1,hc2,hc3⟩:=h8_4;have tx':=(tx.mono kv).put (rk.mono kv) (rv.mono kv);refine ja es ep ?_ ?_ ?_ ?_ (a.tabNe e)
 .rw[ho];obtain⟨c,di,da,sl⟩:=o;simp only at hc1 hc2 hc3 hd;subst hc1;subst hc2;subst hc3;subst hd;rfl
 .rw[he];exact tx'.to
 .rw[<-tx'.keys];exact hn
 .have:=Tab.wW kvs k x;lia
theorem zoS{xs:List (List zc×Addr×Value)}{kvs:Tab}(tx:TX O s.heap xs kvs)(k:List zc):(atKey xs k).isSome=(kvs.at k).isSome:=by
 rcases tx.at_ (k:=k) with⟨h1,h2⟩|⟨p,y,h1,h2,_⟩<;>rw[h1,h2]<;>rfl
variable{A:Around}{E:Value->Shared->Prop}{dp:Dp}{Q:zk}{k:List zc}{u:Value}
theorem zqD{v:Value}{x:AV}{R:Unit->Shared->Prop}(L:Live X dp A)(a:At X O s)(e:O d=some (.tdict kvs))(rk:RepV O s.heap (zx k) u)(rv:RepV O s.heap x v)(hl:kvs.length<1000000)
  (q:∀s',At X (O.set d (.tdict (kvs.put k x))) s'->Step E0 O s (O.set d (.tdict (kvs.put k x))) s'->R () s'):wpAny X.M A (setItem (.ref d) u v) R E s:=by
 refine zl (jv rk) λad vs e10_2 _ _=>?_;subst e10_2;refine zb (a.tab e) λxs hD tx=>?_;have room:=L.room;refine wpAny_setItem_heap (knd:=kl X.prog X.w) (by show A.units+1+100<cLine;exact zsV room) (zcg rk) hD (λh' hD' hs=>?_) (by rw[tx.length,Hb];exact zvX hl);refine q _ (a.store (t:=_) (ao:=.tdict (kvs.put k x)) e rfl hs λkv=>?_) (Step.store (t:=_) e rfl hs);exact ziq a e tx rk rv hl kv hD'
theorem zqC{v:Value}{x:AV}{R:Unit->Shared->Prop}(L:Live X dp A)(a:At X O s)(e:O d=some (.tdict kvs))(rk:RepV O s.heap (zx k) u)(rv:RepV O s.heap x v)(hl:kvs.length<1000000)
  (q:∀s',At X (O.set d (.tdict (kvs.put k x))) s'->Step E0 O s (O.set d (.tdict (kvs.put k x))) s'->R () s'):wpAny X.M A (dictSet d u v) R E s:=by
 refine zl (jv rk) λad vs e12_2 _ _=>?_;subst e12_2;refine zb (a.tab e) λxs hD tx=>?_;have room:=L.room;refine wpAny_dictSet_heap (knd:=kl X.prog X.w) (by show A.units+100<cLine;exact zzS room) (zcg rk) hD (λh' hD' hs=>?_) (by rw[tx.length,Hb];exact zvX hl);refine q _ (a.store (t:=_) (ao:=.tdict (kvs.put k x)) e rfl hs λkv=>?_) (Step.store (t:=_) e rfl hs);exact ziq a e tx rk rv hl kv hD'
theorem zsK(L:Live X dp A)(a:At X O s)(e:O d=some (.tdict kvs))(rk:RepV O s.heap (zx k) u)(q:Q (.bool (kvs.at k).isSome) (vis O)):wpAny X.M A (compareOp .In u (.ref d)) (liftQ X O s Q) E s:=by
 refine zl (jv rk) λad vs e14_2 _ _=>?_;subst e14_2;refine zb (a.tab e) λxs hD tx=>?_;have room:=L.room;refine wpAny_in_heap (knd:=kl X.prog X.w) (by show A.units+1+100<cLine;exact zsV room) (zcg rk) (a.tabNe e) hD ?_;rw[zoS tx];exact zax a (.bool _) q
theorem zqB{x:AV}(L:Live X dp A)(a:At X O s)(e:O d=some (.tdict kvs))(rk:RepV O s.heap (zx k) u)(hx:kvs.at k=some x)(q:Q x (vis O)):wpAny X.M A (getItem (.ref d) u) (liftQ X O s Q) E s:=by
 refine zl (jv rk) λad vs e16_2 _ _=>?_;subst e16_2;refine zb (a.tab e) λxs hD tx=>?_;have room:=L.room
 rcases tx.at_ (k:=k) with⟨_,h2⟩|⟨p,y,h1,h2,r⟩
 .rw[hx] at h2;exact absurd h2 (fN _)
 .rw[hx] at h2;obtain rfl:=Hx h2;exact wpAny_getItem_heap (knd:=kl X.prog X.w) (by show A.units+1+100<cLine;exact zsV room) (zcg rk) hD h1 (zax a r q)
end
noncomputable def zbk(fs:List (Nat×AV))(k:Nat):Option AV:=match fs with
 | []=>none
 | p::r=>bif Nat.beq p.1 k then some p.2 else zbk r k
noncomputable def jx(fs:List (Nat×AV))(k:Nat)(v:AV):List (Nat×AV):=match fs with
 | []=>[(k,v)]
 | p::r=>bif Nat.beq p.1 k then (k,v)::r else p::jx r k v
theorem zsq{a b:Nat}:Nat.beq a b=decide (a=b):=by
 cases h:Nat.beq a b with
 | true=>exact(Hz (Nat.eq_of_beq_eq_true h)).symm
 | false=>exact(Hy (Nat.ne_of_beq_eq_false h)).symm
theorem zcI(fs:List (Nat×AV))(k:Nat)(v:AV):(jx fs k v).length<=fs.length+1:=by
 induction fs with
 | nil=>exact fO _
 | cons p r ih=>
  unfold jx;cases Nat.beq p.1 k with
  | true=>exact fA7 _
  | false=>exact gW ih
section
variable{X:Cx}{O:AHeap}{s:Shared}{h:Heap}{d:Addr}{fs:List (Nat×AV)}{kvs:List (Str×Value)}
theorem SX.get(t:SX O h kvs fs){k:Nat}(hk:k<kU):(valueAt kvs (zu k)=none/\zbk fs k=none)\/∃v x,valueAt kvs (zu k)=some v/\zbk fs k=some x/\RepV O h x v:=by
 induction t with
 | nil=>exact .inl ⟨rfl,rfl⟩
 | @cons k' x v kvs fs hk' r t ih=>
  unfold valueAt at ih ⊢;rw[pX,show zbk ((k',x)::fs) k=(bif Nat.beq k' k then some x else zbk fs k) from rfl,zsq]
  by_cases e:k'=k
  .subst e;rw[Hz rfl,Hz rfl];exact .inr (zI v x rfl rfl r)
  .have e':¬zu k'=zu k:=λq=>e (kW hk' hk q);rw[Hy e',Hy e];exact ih
theorem SX.keys(t:SX O h kvs fs):kvs.map (·.1)=fs.map λf=>zu f.1:=by
 induction t with
 | nil=>rfl
 | cons _ _ _ ih=>rw[gM,gM,ih]
theorem SX.length(t:SX O h kvs fs):kvs.length=fs.length:=by
 have:=congrArg List.length t.keys;rwa [fC,fC] at this
theorem zpf{k:Str}:kvs.any (λkv=>decide (kv.1=k))=decide (k∈kvs.map (·.1)):=by
 rw[Bool.eq_iff_iff,List.any_eq_true,decide_eq_true_eq,fG];exact⟨λ⟨p,h1,h2⟩=>(zd p h1 (H0 h2)),λ⟨p,h1,h2⟩=>(zd p h1 (Hz h2))⟩
theorem SX.put(t:SX O h kvs fs)(nd:(kvs.map (·.1)).Nodup){k:Nat}{x:AV}{v:Value}(hk:k<kU)(r:RepV O h x v):SX O h (stored kvs (zu k) v) (jx fs k x):=by
 have go:∀{kvs:List (Str×Value)} {fs:List (Nat×AV)},SX O h kvs fs->(kvs.map (·.1)).Nodup->(zu k∈kvs.map (·.1)->SX O h (kvs.map λkv=>if kv.1=zu k then (kv.1,v) else kv) (jx fs k x))/\(zu k∉kvs.map (·.1)->SX O h (kvs++[(zu k,v)]) (jx fs k x)):=by
  intro kvs fs t
  induction t with
  | nil=>intro _;exact⟨λh=>(nomatch h),λ_=>.cons hk r .nil⟩
  | @cons k' x' v' kvs fs hk' r' t ih=>
   intro nd;rw[gM] at nd;have nd':=fT.mp nd;have ih':=ih nd'.2;rw[gM,gM];unfold jx;rw[zsq]
   by_cases e:k'=k
   .subst e;rw[Hz rfl];refine⟨λ_=>?_,λhn=>absurd fB hn⟩;rw[if_pos rfl,map_store_of_not_mem kvs _ v nd'.1];exact .cons hk r t
   .have e':¬zu k'=zu k:=λq=>e (kW hk' hk q);rw[Hy e];rw[if_neg e'];refine⟨λhm=>.cons hk' r' (ih'.1 ?_),λhn=>.cons hk' r' (ih'.2 λq=>hn (fA _ q))⟩
    rcases fM.mp hm with q|q
    .exact absurd q.symm e'
    .exact q
 unfold stored;rw[zpf]
 by_cases hm:zu k∈kvs.map (·.1)
 .rw[Hz hm,if_pos rfl];exact(go t nd).1 hm
 .rw[Hy hm,if_neg pK];exact(go t nd).2 hm
theorem zdA(hD:h.DictOf (strKind X.prog X.w) d kvs):(kvs.map (·.1)).Nodup:=by refine jc hD λ_ _ _ _ _ _ _ _ n=>?_;exact n
theorem zga(n:Nat)(t:Tok):(strKind X.prog X.w).is (zu n) (.str (zu n) t)=true:=strKind_is _ _ _ _
theorem zlS{A:Around}{E:Value->Shared->Prop}{key c:Value}{P R:Value->Shared->Prop}(h:wpAny X.M A (compareOp .In key c) P E s)(k:∀t s',P (.bool t) s'->R (.bool (!t)) s'):wpAny X.M A (compareOp .NotIn key c) R E s:=by
 have h:wpAny X.M A (do return .bool (<-contains c key)) P E s:=h;refine G7 (λΓ p hΓ=>?_);have:=h Γ p hΓ;rw[Sem.wp_bind'] at this;exact Sem.wp_mono X.M Γ _ (λt _ s' x=>G8 (k t s' (by simpa using x))) (λ_ _ _ x=>x) p s this
variable{A:Around}{E:Value->Shared->Prop}{Q:zk}{k:Nat}{u v:Value}{x:AV}
theorem zuh(a:At X O s)(e:O d=some (.idict fs))(rk:RepV O s.heap (.str k) u)(q:Q (.bool (zbk fs k).isSome) (vis O)):wpAny X.M A (compareOp .In u (.ref d)) (liftQ X O s Q) E s:=by
 refine zy (a.rep _ _ e) λkvs hD sx hl hs=>?_;refine zb (RepV.wJ rk) λt e2_1 hn=>?_;subst e2_1;refine wpAny_in_of (zga k t) hs hD.mapOf ?_
 rcases sx.get hn with⟨h1,h2⟩|⟨v,x,h1,h2,_⟩<;>rw[h1]<;>rw[h2] at q<;>exact zax a (.bool _) q
theorem zsE(a:At X O s)(e:O d=some (.idict fs))(rk:RepV O s.heap (.str k) u)(hx:zbk fs k=some x)(q:Q x (vis O)):wpAny X.M A (getItem (.ref d) u) (liftQ X O s Q) E s:=by
 refine zy (a.rep _ _ e) λkvs hD sx hl hs=>?_;refine zb (RepV.wJ rk) λt e4_1 hn=>?_;subst e4_1
 rcases sx.get hn with⟨h1,h2⟩|⟨v,y,h1,h2,r⟩
 .rw[hx] at h2;exact absurd h2 (fN _)
 .rw[hx] at h2;obtain rfl:=Hx h2;exact wpAny_getItem_of (zga k t) hD.mapOf h1 (zax a r q)
theorem zgy{O':AHeap}{h':Heap}(a:At X O s)(e:O d=some (.idict fs))(hk:k<kU)(rv:RepV O s.heap x v)(hD:s.heap.DictOf (strKind X.prog X.w) d kvs)(sx:SX O s.heap kvs fs)(hl:fs.length<100)(kv:KeepV O s.heap O' h')
  (hD':h'.DictOf (strKind X.prog X.w) d (stored kvs (zu k) v)):RepA X O' h' d (.idict (jx fs k x)):=by
 refine zy (a.rep _ _ e) λ_ _ _ _ hs=>?_;exact jU _ hD' ((sx.mono kv).put (zdA hD) hk (rv.mono kv)) (by have:=zcI fs k x;exact zAk hl this) hs
theorem zsG{R:Unit->Shared->Prop}(a:At X O s)(e:O d=some (.idict fs))(rk:RepV O s.heap (.str k) u)(rv:RepV O s.heap x v)(hl:fs.length<100)
  (q:∀s',At X (O.set d (.idict (jx fs k x))) s'->Step E0 O s (O.set d (.idict (jx fs k x))) s'->R () s'):wpAny X.M A (setItem (.ref d) u v) R E s:=by
 refine zy (a.rep _ _ e) λkvs hD sx _ hs=>?_;refine zb (RepV.wJ rk) λt e7_1 hn=>?_;subst e7_1;refine wpAny_setItem_pairs (zga k t) hD (λh' hD' hs'=>?_) (by rw[sx.length,Hb];exact zvW hl);exact q _ (a.store (t:=_) e rfl hs' λkv=>zgy a e hn rv hD sx hl kv hD') (Step.store (t:=_) e rfl hs')
theorem zsF{R:Unit->Shared->Prop}(a:At X O s)(e:O d=some (.idict fs))(rk:RepV O s.heap (.str k) u)(rv:RepV O s.heap x v)(hl:fs.length<100)
  (q:∀s',At X (O.set d (.idict (jx fs k x))) s'->Step E0 O s (O.set d (.idict (jx fs k x))) s'->R () s'):wpAny X.M A (dictSet d u v) R E s:=by
 refine zy (a.rep _ _ e) λkvs hD sx _ hs=>?_;refine zb (RepV.wJ rk) λt e9_1 hn=>?_;subst e9_1;refine wpAny_dictSet_pairs (hsz:=by rw[sx.length,Hb];exact zvW hl) (zga k t) hD λh' hD' hs'=>?_;exact q _ (a.store (t:=_) e rfl hs' λkv=>zgy a e hn rv hD sx hl kv hD') (Step.store (t:=_) e rfl hs')
end
structure FlyB(X:Cx)(O:AHeap)(g:Heap)(x:Addr)(h:Heap):Prop where
 keepS:∀b o,g.get? b=some o->b≠x->∃sl,h.get? b=some { o with slots:=sl }
 keepX:∀b o,g.get? b=some o->b≠x->((∀es n,o.data≠.dict es n)\/O b≠none\/X.h₀.get? b≠none)->h.get? b=some o
 size:g.objs.size<=h.objs.size
def TrAt(g h:Heap)(x c:Addr)(fl:Value):Prop:=∃vs T tc ts,h.get? x=some (exO c vs)/\vs[1]? = some (.ref T)/\T≠x/\g.get? T=none/\h.get? T=some { cls:=tc,dict:=none,data:=.fields ts,slots:=#[] }/\ts[3]? = some fl
structure FOk(X:Cx)(O:AHeap)(g:Heap)(x c:Addr):Prop where
 fr:∀L∈X.fr,O L=none/\IsD g L/\X.h₀.get? L=none
 exg:∃vs,g.get? x=some (exO c vs)
section
variable{X:Cx}{O:AHeap}{g h h':Heap}{x c:Addr}
theorem FOk.ne(F:FOk X O g x c){L:Addr}(hL:L∈X.fr):L≠x:=by
 rintro rfl;refine jy ((F.fr L hL).2.1) λo es n h1 h2=>?_;obtain⟨vs,h3⟩:=F.exg;rw[h1] at h3;obtain rfl:=Hx h3;cases h2
theorem FlyB.dict(f:FlyB X O g x h)(F:FOk X O g x c){L:Addr}(hL:L∈X.fr):IsD h L:=by
 refine jy ((F.fr L hL).2.1) λo es n h1 h2=>?_;obtain⟨sl,h3⟩:=f.keepS L o h1 (F.ne hL);exact zag _ es n h3 h2
theorem FlyB.frames(f:FlyB X O g x h)(F:FOk X O g x c){base:Heap}(hb:∀L∈X.fr,base.get? L=none){envs:List Env}(FO:∀e∈envs,e.scope.kind≠.module/\∃L,e.frame=some L/\L∈X.fr):h.FunFrames base envs:=by
 induction envs with
 | nil=>trivial
 | cons e r ih=>
  refine qN (FO e fB) λh1 L h2 h3=>?_;refine jy (f.dict F h3) λo es n h4 h5=>?_;exact zp h1 (zn L o h2 (hb L h3) h4 (λvs q=>by rw[h5] at q;cases q)) (ih λe he=>FO e (fA _ he))
theorem FlyB.next(f:FlyB X O g x h)(F:FOk X O g x c)(k:∀b o,h.get? b=some o->b∉X.fr->b≠x->g.get? b≠none->h'.get? b=some o)(k4:∀b o,b∈X.fr->h.get? b=some o->∃sl,h'.get? b=some { o with slots:=sl })(hz:h.objs.size<=h'.objs.size):FlyB X O g x h':=by
 refine⟨λb o e hb=>?_,λb o e hb hc=>?_,fE f.size hz⟩
 .obtain⟨sl,h1⟩:=f.keepS b o e hb
  by_cases hf:b∈X.fr
  .obtain⟨sl',h2⟩:=k4 b _ hf h1;exact⟨sl',h2⟩
  .exact⟨sl,k b _ h1 hf hb (by rw[e];exact λq=>nomatch q)⟩
 .refine k b o (f.keepX b o e hb hc) (λq=>?_) hb (by rw[e];exact λq=>nomatch q);refine jb (F.fr b q) λh1 h8_1 h4=>?_;obtain⟨o',es,n,h2,h3⟩:=h8_1;rw[e] at h2;obtain rfl:=Hx h2
  rcases hc with hc|hc|hc
  .exact hc es n h3
  .exact hc h1
  .exact hc h4
end
section
variable{prog:Hi}{w:World}{A:Around}{E:Value->Shared->Prop}{s:Shared}{X:Cx}{O:AHeap}{g:Heap}{x c L:Addr}{env:Env}{outer:List Env}{Q:Unit->Shared->Prop}
theorem Fly.b{h:Heap}(f:Fly X O g x c h):FlyB X O g x h:=⟨f.keepS,f.keepX,f.size⟩
theorem znl(FO:FrOk X (env::outer))(a:At X O { s with heap:=g }){h:Heap}(f:Fly X O g x c h):FOk X O g x c:=⟨λL hL=>(zp ((a.ff L hL).1) ((a.ff L hL).2) (FO.out L hL)),f.exg⟩
theorem TrAt.fly{h:Heap}(f:FlyB X O g x h)(F:FOk X O g x c)(t:TrAt g h x c .none):Fly X O g x c h:=by
 refine jI t λvs T tc ts h1 h5 h6 h7 h8 h10=>?_;exact⟨f.keepS,f.keepX,F.exg,f.size,vs,h1,.inr (zE T tc ts h5 h6 h7 h8 h10)⟩
theorem FlyB.entry{vs:Array Value}{head:Value}{hadNext:Bool}(FO:FrOk X (env::outer))(hfr:A.frames=some (env::outer))(hf:env.frame=some L)(F:FOk X O g x c)(f:FlyB X O g x s.heap)(he:s.heap.get? x=some (exO c vs))(h1:1<vs.size)
  (hQ:∀h',FlyB X O g x h'->TrAt g h' x c (rawInt L)->Q () { s with heap:=h' }) :
  wpAny (model prog w) A (do let a <-frameOf env;let pl <-entryPlaceOf L hadNext;let b <-EntryCells.newEntry head a .none (rawInt L) .none pl;setField (.ref x) 1 b) Q E s:=by
 refine G7 (wpAny_frameOf_fun (base:=hideAll s.heap X.fr) hfr (f.frames F (λL hL=>hideAll_none _ hL) FO.is) hf λh₁ hs₁=>?_);have sub:∀b,b∈(env::outer).filterMap (·.frame)->b∈X.fr:=λb hb=>by
  refine zb (pU.mp hb) λe he hb=>?_;refine qN (FO.is e he) λ_ M h2 h3=>?_;rw[h2] at hb;obtain rfl:=Hx hb;exact h3
 have f1:FlyB X O g x h₁:=f.next F (λb o e hb _ _=>(hs₁.2.1 b λq=>hb (sub b q)).trans e) (λb o _ e=>hs₁.2.2 b o e) (pF hs₁.1.symm);have he₁:h₁.get? x=some (exO c vs):=(hs₁.2.1 x λq=>F.ne (sub x q) rfl).trans he;refine G7 (wpAny_entryPlaceOf λpl hpl=>?_);refine G7 (wpAny_newObj_type ?_ (hpl.sizeOk5 _ _ _ _ _));have hTx:h₁.objs.size≠x:=fBI (Heap.lt_size he₁);refine wpAny_setField_rec (Heap.get?_push_of_some _ he₁) h1 λh' e' sb=>hQ h' ?_ ?_
 .refine f1.next F (λb o e _ hb _=>(sb.2 b hb).trans (Heap.get?_push_of_some _ e)) (λb o hb e=>⟨o.slots,(sb.2 b (F.ne hb)).trans (Heap.get?_push_of_some _ e)⟩) ?_;rw[sb.1,Heap.size_push];exact fA7 _
 .refine qF _ h₁.objs.size _ _ e' (by simp[h1]) hTx ?_ ((sb.2 _ hTx).trans (Heap.get?_push_size _ rfl)) rfl;cases q:g.get? h₁.objs.size with
  | none=>rfl
  | some o=>exact absurd (Heap.lt_size q) (pE.mpr f1.size)
theorem Fly.note(FO:FrOk X (env::outer))(hfr:A.frames=some (env::outer))(hf:env.frame=some L)(a:At X O { s with heap:=g })(f:Fly X O g x c s.heap)(hQ:∀h',FlyB X O g x h'->TrAt g h' x c (rawInt L)->Q () { s with heap:=h' }):wpAny (model prog w) A (noteFrame (.ref x) env) Q E s:=by
 have F:=znl FO a f;refine zb f.exh λvs h1 h5=>?_;unfold noteFrame;simp only[hf]
 rcases h5 with h5|⟨T,tc,ts,h5,h6,h7,h8,h10⟩
 .refine G7 (wpAny_field h1 rfl h5 ?_);rw[if_neg (by decide)];exact f.b.entry FO hfr hf F h1 (pO.mp h5).1 hQ
 .refine G7 (wpAny_field h1 rfl h5 ?_);refine G7 (wpAny_field h8 rfl h10 ?_);refine G7 (wpAny_setField_rec h8 (pO.mp h10).1 λh' e' sb=>?_);have hT:∀b,g.get? b≠none->b≠T:=λb hb q=>hb (q▸h7);have f':FlyB X O g x h':=f.b.next F (λb o e _ _ hg=>(sb.2 b (hT b hg)).trans e) (λb o hb e=>⟨o.slots,(sb.2 b (hT b (by refine jy ((F.fr b hb).2.1) λo _ _ h _=>?_;rw[h];exact λq=>nomatch q))).trans e⟩) (pF sb.1.symm);exact FlyB.entry (s:={ s with heap:=h' }) FO hfr hf F f' ((sb.2 x h6.symm).trans h1) (pO.mp h5).1 hQ
theorem FlyB.vM{fl:Value}(F:FOk X O g x c)(f:FlyB X O g x s.heap)(t:TrAt g s.heap x c fl)(hQ:∀h',Fly X O g x c h'->TrAt g h' x c .none->Q () { s with heap:=h' }):wpAny (model prog w) A (setFlight (.ref x) none) Q E s:=by
 refine jI t λvs T tc ts h1 h5 h6 h7 h8 h10=>?_;have h3:3<ts.size:=(pO.mp h10).1;refine G7 (wpAny_field h1 rfl h5 ?_);refine wpAny_setField_rec h8 h3 λh' e' sb=>?_;have hT:∀b,g.get? b≠none->b≠T:=λb hb q=>hb (q▸h7);have f':FlyB X O g x h':=f.next F (λb o e _ _ hg=>(sb.2 b (hT b hg)).trans e) (λb o hb e=>⟨o.slots,(sb.2 b (hT b (by refine jy ((F.fr b hb).2.1) λo _ _ h _=>?_;rw[h];exact λq=>nomatch q))).trans e⟩) (pF sb.1.symm);have t':TrAt g h' x c .none:=(qF vs T tc _ ((sb.2 x h6.symm).trans h1) h5 h6 h7 e' (by simp[h3]))
 exact hQ h' (TrAt.fly f' F t') t'
theorem Fly.vH(FO:FrOk X (env::outer))(hfr:A.frames=some (env::outer))(hf:env.frame=some L)(a:At X O { s with heap:=g })(f:Fly X O g x c s.heap)(hQ:∀h',Fly X O g x c h'->Q () { s with heap:=h' }):wpAny (model prog w) A (leaving env (.ref x)) Q E s:=by
 exact G7 (f.note FO hfr hf a λh' f' t'=>FlyB.vM (s:={ s with heap:=h' }) (znl FO a f) f' t' λh2 f2 _=>hQ h2 f2)
theorem Fly.keepV{h:Heap}(f:Fly X O g x c h):KeepV O g O h:=⟨λb o e st=>by
 by_cases hb:b=x
 .subst hb;obtain⟨vs1,h1⟩:=f.exg;refine zb f.exh λvs h4 _=>?_;rw[e] at h1;obtain rfl:=Hx h1;exact zd _ h4 (.inr (zag c vs1 vs rfl rfl))
 .refine zd o (f.keepX b o e hb (.inl λes n q=>?_)) (.inl rfl)
  rcases st with⟨_,xs,k,h1⟩|⟨_,vs,h1⟩|⟨_,vs,_,h1⟩<;>(rw[h1] at q;cases q),λ_ _ e=>e⟩
theorem Fly.at(FOo:∀L∈X.fr,X.h₀.get? L=none)(a:At X O { s with heap:=g })(hx:X.h₀.get? x=none)(f:Fly X O g x c s.heap):At X O s:=by
 have hxσ:O x=none:=by
  obtain⟨vs,h1⟩:=f.exg;exact a.stays h1 (.inr (.inr (zbw c vs rfl rfl)))
 have F:FOk X O g x c:=⟨λL hL=>(zp ((a.ff L hL).1) ((a.ff L hL).2) (FOo L hL)),f.exg⟩
 refine⟨λb o e=>f.keepX b o (a.keep b o e) (λq=>by rw[q,hx] at e;cases e) (.inr (.inr (by rw[e];exact λq=>nomatch q))),λb o e=>(a.rep b o e).mono f.keepV λob hob=>?_,a.own,a.gens,a.os,λL hL=>⟨(a.ff L hL).1,f.b.dict F hL⟩⟩;exact f.keepX b ob hob (λq=>by rw[q,hxσ] at e;cases e) (.inr (.inl (by rw[e];exact λq=>nomatch q)))
theorem Fly.step{B:Addr->Prop}{O0:AHeap}{s0:Shared}(hx:New O0 s0 x)(st:Step B O0 s0 O { s with heap:=g })(f:Fly X O g x c s.heap):Step B O0 s0 O s:=by
 have hne:∀{b:Addr} {o:Obj},s0.heap.get? b=some o->O0 b=none->b≠x:=λe h q=>hx _ (q▸e) (q▸h);refine⟨λb o e h1 h2 h3=>f.keepX b o (st.keep b o e h1 h2 h3) (hne e h1) (.inl h3),λb o e h1 h2=>?_,st.fresh,fE st.size f.size,st.frz⟩;obtain⟨sl,h3⟩:=st.keepD b o e h1 h2;obtain⟨sl',h4⟩:=f.keepS b _ h3 (hne e h1);exact⟨sl',h4⟩
end
def zt8(X:Cx)(O:AHeap)(s:Shared)(Q:zk)(Z:XP):Result->Shared->Prop:=λr s'=>match r with
 | .ok (.ret v)=>liftQ X O s Q v s'
 | .ok _=>False
 | .error e=>liftX X O s Z e s'
@[irreducible] noncomputable def CallOk(X:Cx)(f:Addr)(d:Dp)(args:List AV)(Q:zk)(Z:XP)(O₀:AHeap):Prop:=
 ∀A s vs O,vis O=O₀->Live X d A->At X O s->RepVs O s.heap args vs->Hj X.M A (.call (.ref f) ⟨vs,[]⟩) (zt8 X O s Q Z) s
structure FnOk(X:Cx)(f:Addr)(ps:List Str)(body:List Stmt)(scope:Scope):Prop where
 ex:∃o fd,X.h₀.get? f=some o/\o.data = .func fd/\fd.scope=scope/\fd.body = .stmts body/\fd.closure=[]/\fd.globals=Hl/\fd.builtins=builtinsNs/\X.h₀.CodeRec fd.code fd.qualname/\
  ∀vs,vs.length=ps.length->bindArgs fd ⟨vs,[]⟩=pure (ps.zip vs)
structure NamesOk(names:List (Str×NameKind))(nm:List (Str×Nat))(ps:List Str)(N:Nat):Prop where
 nodup:(names.map (·.1)).Nodup
 kinds:∀x i,nm.lookup x=some i->i<N/\(names.lookup x=some .local\/names.lookup x=some .cell)
 inj:∀x y i,nm.lookup x=some i->nm.lookup y=some i->x=y
 par:∀x i,nm.lookup x=some i->∀p,ps[i]? = some p->p=x
 par':∀(i:Nat) p,ps[i]? = some p->nm.lookup p=some i
 le:ps.length<=N
 len:qV nm=N
 psnd:ps.Nodup
theorem zbm{x:Str}(names:List (Str×NameKind)):∀(n:Nat) (acc:List (Str×Addr)),names.lookup x=some .cell\/(acc.lookup x).isSome=true->((cellsFrom n names acc).lookup x).isSome=true:=by
 induction names with
 | nil=>exact λ_ _ h=>h.elim (λe=>nomatch e) id
 | cons p r ih=>
  intro n acc h;show ((if (p.2==.cell)=true then cellsFrom (n+1) r ((p.1,n)::acc) else cellsFrom n r acc).lookup x).isSome=true
  by_cases hy:x=p.1
  .subst hy;rw[pN,beq_self_eq_true] at h
   by_cases hk:(p.2==.cell)=true
   .rw[if_pos hk];exact ih _ _ (.inr (by rw[pN,beq_self_eq_true];rfl))
   .rw[if_neg hk];exact ih _ _ (.inr (h.elim (λe=>absurd (by rw[Hx e];rfl) hk) id))
  .have h:=h.imp (λe=>(jB hy).symm.trans e) id;split
   .exact ih _ _ (h.imp id λe=>by rw[jB hy];exact e)
   .exact ih _ _ h
theorem zdz(names:List (Str×NameKind)):∀(n:Nat) (acc:List (Str×Addr)),(names.map (·.1)).Nodup->(acc.map (·.1)).Nodup->(∀x,x∈acc.map (·.1)->x∉names.map (·.1))->((cellsFrom n names acc).map (·.1)).Nodup:=by
 induction names with
 | nil=>exact λ_ _ _ h _=>h
 | cons p r ih=>
  intro n acc hn ha hd;have hn':=fT.mp hn;have hd':∀x,x∈acc.map (·.1)->x∉r.map (·.1):=λx hx q=>hd x hx (fA _ q);show ((if (p.2==.cell)=true then cellsFrom (n+1) r ((p.1,n)::acc) else cellsFrom n r acc).map (·.1)).Nodup;split
  .exact ih _ _ hn'.2 (fT.mpr ⟨λq=>hd _ q fB,ha⟩) (fR.mpr ⟨hn'.1,hd'⟩)
  .exact ih _ _ hn'.2 ha hd'
theorem zby{J:Type}{r:List (Str×J)}{x:Str}(h:x∉r.map (·.1)):r.lookup x=none:=by
 cases e:r.lookup x with
 | none=>rfl
 | some c=>exact absurd (gN (f:=(·.1)) (mem_of_lookup e)) h
theorem zmU{kindOf:Str->Option NameKind}{x:Str}(hx:kindOf x=some .local)(binds:List (Str×Value)):∀(m:Str->Option Value),(binds.map (·.1)).Nodup->bindL kindOf binds m x=(binds.lookup x).or (m x):=by
 induction binds with
 | nil=>exact λ_ _=>rfl
 | cons p r ih=>
  intro m hn;have hn':=fT.mp hn;show bindL kindOf r (if kindOf p.1=some .local then λy=>if y=p.1 then some p.2 else m y else m) x=_;rw[ih _ hn'.2]
  by_cases hy:x=p.1
  .subst hy;rw[zby hn'.1,pN,beq_self_eq_true];simp[hx]
  .rw[show List.lookup x (p::r)=_ from jB hy];split
   .simp[hy]
   .rfl
theorem zmT{kindOf:Str->Option NameKind}{x:Str}(hx:kindOf x=some .cell)(binds:List (Str×Value)):∀(m:Str->Option Value),(binds.map (·.1)).Nodup->bindC kindOf binds m x=(binds.lookup x).or (m x):=by
 induction binds with
 | nil=>exact λ_ _=>rfl
 | cons p r ih=>
  intro m hn;have hn':=fT.mp hn;show bindC kindOf r (if kindOf p.1=some .local then m else λy=>if y=p.1 then some p.2 else m y) x=_;rw[ih _ hn'.2]
  by_cases hy:x=p.1
  .subst hy;rw[zby hn'.1,pN,beq_self_eq_true];simp[hx]
  .rw[show List.lookup x (p::r)=_ from jB hy];split
   .rfl
   .simp[hy]
theorem zka{ps:List Str}:∀{vs:List Value} {i:Nat} {x:Str},ps.Nodup->ps.length=vs.length->ps[i]? = some x->(ps.zip vs).lookup x=vs[i]?:=by
 induction ps with
 | nil=>intro vs i x _ _ h;cases h
 | cons p ps ih=>
  intro vs i x hn hl h;cases vs with
  | nil=>cases hl
  | cons v vs=>
   cases i with
   | zero=>simp at h;subst h;simp
   | succ i=>
    have hn':=fT.mp hn;rw[fAX] at h;have hne:(x==p)=false:=by
     cases hb:x==p with
     | false=>rfl
     | true=>rw[beq_iff_eq.mp hb] at h;exact absurd (pT h) hn'.1
    rw[fC3,pN,hne,fAX];exact ih hn'.2 (Nat.succ.inj hl) h
theorem zdd{ps:List Str}{vs:List Value}{x:Str}(h:x∉ps):(ps.zip vs).lookup x=none:=zby λq=>by
 refine zb (fG.mp q) λp hp e=>?_;exact h (e▸(fB9 (a:=p.1) (b:=p.2) hp).1)
noncomputable def zge(args:List AV)(N:Nat):Loc:=args.map some++List.replicate (N-args.length) none
theorem znU(args:List AV)(N i:Nat):(zge args N).getD i none=args[i]?:=by
 unfold zge;rw[fQ]
 by_cases h:i<args.length
 .rw[pC (by simpa using h),fA8];rw[fJ h];rfl
 .rw[gI (by simpa using pE.mp h),List.getElem?_replicate,fAF (pE.mp h)];split<;>rfl
noncomputable def zrs:Fl->AV
 | .next=>.none
 | .ret v=>v
theorem RepVs.getO{O:AHeap}{h:Heap}{xs:List AV}{vs:List Value}(r:RepVs O h xs vs):∀(i:Nat),RepO O h xs[i]? vs[i]?:=by
 induction xs generalizing vs with
 | nil=>obtain rfl:=RepVs.wG r;intro i;simp;trivial
 | cons x xs ih=>
  obtain⟨_,_,rfl,a,r⟩:=RepVs.wF r;intro i;cases i with
  | zero=>exact a
  | succ i=>simpa using ih r i
mutual
inductive Fz(V:Addr->Option (List AV)):AV->AV->Prop
 | same (x:AV):Fz V x x
 | lst {a:Addr} {ys:List AV}:V a=some ys->Fz V (.ref a) (.lst ys)
 | tup {xs ys:List AV}:FzL V xs ys->Fz V (.tup xs) (.tup ys)
inductive FzL(V:Addr->Option (List AV)):List AV->List AV->Prop
 | nil:FzL V [] []
 | cons {x y:AV} {xs ys:List AV}:Fz V x y->FzL V xs ys->FzL V (x::xs) (y::ys)
end
structure FzOk(V:Addr->Option (List AV))(O O':AHeap):Prop where
 lst:∀a ys,V a=some ys->O' a=none/\∃xs,O a=some (.list xs)/\FzL V xs ys
 sub:∀a o,O' a=some o->O a=some o
@[irreducible] noncomputable def Ends(Q:zk)(v:AV)(O:AHeap):Prop:=∃V O' v',FzOk V O O'/\Fz V v v'/\Q v' O'
theorem FzL.length{V:Addr->Option (List AV)}{xs ys:List AV}(h:FzL V xs ys):ys.length=xs.length:=by
 induction xs generalizing ys with
 | nil=>cases h;rfl
 | cons x xs ih=>cases h with|cons _ r=>rw[fH,fH,ih r]
noncomputable def fzH(V:Addr->Option (List AV))(O O':AHeap):AHeap:=λa=>match O a with
 | some (.frz xs)=>some (.frz xs)
 | _=>match V a with
  | some ys=>some (.frz ys)
  | none=>O' a
section
variable{X:Cx}{V:Addr->Option (List AV)}{O O':AHeap}{s:Shared}(H:FzOk V (vis O) O')
include H
theorem znq{a:Addr}{xs:List AV}(h:O a=some (.frz xs)):fzH V O O' a=some (.frz xs):=by unfold fzH;rw[h]
theorem znr{a:Addr}{ys:List AV}(h:V a=some ys):fzH V O O' a=some (.frz ys):=by
 refine qN (H.lst a ys h) λ_ xs h1 _=>?_;unfold fzH;rw[(zB h1).1,h]
theorem zpv{a:Addr}(h1:∀xs,O a≠some (.frz xs))(h2:V a=none):fzH V O O' a=O' a:=by
 unfold fzH;split
 .rename_i xs e;exact absurd e (h1 xs)
 .rw[h2]
theorem zaL{a:Addr}{o:AO}(h:fzH V O O' a=some o):(∃xs,o = .frz xs/\O a=some (.frz xs))\/(∃ys,o = .frz ys/\V a=some ys)\/(O' a=some o/\O a=some o/\o.ro=false):=by
 unfold fzH at h;split at h
 .rename_i xs e;obtain rfl:=Hx h;exact .inl (zd xs rfl e)
 .split at h
  .rename_i ys e;obtain rfl:=Hx h;exact .inr (.inl (zd ys rfl e))
  .have:=zB (H.sub a o h);exact .inr (.inr (zp h this.1 this.2))
theorem zr1:vis (fzH V O O')=O':=by
 funext a
 cases e:fzH V O O' a with
 | none=>
  rw[qh e];cases e':O' a with
  | none=>rfl
  | some o=>
   have h1:=zB (H.sub a o e');cases e2:V a with
   | some ys=>rw[znr H e2] at e;exact absurd e (fN _)
   | none=>rw[zpv H (λxs q=>by rw[h1.1] at q;obtain rfl:=Hx q;cases h1.2) e2,e'] at e;exact absurd e (fN _)
 | some o=>
  rcases zaL H e with⟨xs,rfl,h1⟩|⟨ys,rfl,h1⟩|⟨h1,_,h2⟩
  .have:vis (fzH V O O') a=none:=by unfold vis;rw[e]
   rw[this];cases e':O' a with
   | none=>rfl
   | some o=>have h3:=zB (H.sub a o e');rw[h1] at h3;have:=h3.1;obtain rfl:=Hx this;cases h3.2
  .have:vis (fzH V O O') a=none:=by unfold vis;rw[e]
   rw[this,(H.lst a ys h1).1]
  .rw[zj3 e h2,h1]
theorem zf4:KeepV O s.heap (fzH V O O') s.heap:=⟨λb o e _=>(zd o e (.inl rfl)),λb xs e=>znq H e⟩
theorem zns{x y:AV}{v:Value}(f:Fz V x y)(r:RepV O s.heap x v):RepV (fzH V O O') s.heap y v:=by
 refine Fz.rec (motive_1:=λx y _=>∀v,RepV O s.heap x v->RepV (fzH V O O') s.heap y v) (motive_2:=λxs ys _=>∀vs,RepVs O s.heap xs vs->RepVs (fzH V O O') s.heap ys vs) ?_ ?_ ?_ ?_ ?_ f v r
 .intro x v r;exact r.mono (zf4 H)
 .intro a ys h v r;obtain rfl:=RepV.wM r;exact .lst (znr H h)
 .intro xs ys h ih v r;refine zh (RepV.wH r) λ_ _ e2_2 hl ht rs=>?_;subst e2_2;exact .tup (by rw[h.length];exact hl) ht (ih _ rs)
 .intro vs r;obtain rfl:=RepVs.wG r;exact .nil
 .intro x y xs ys _ _ h1 h2 vs r;obtain⟨_,_,rfl,a,r⟩:=RepVs.wF r;exact .cons (h1 _ a) (h2 _ r)
theorem zpw{xs ys:List AV}{vs:List Value}(f:FzL V xs ys)(r:RepVs O s.heap xs vs):RepVs (fzH V O O') s.heap ys vs:=by
 induction xs generalizing ys vs with
 | nil=>cases f;obtain rfl:=RepVs.wG r;exact .nil
 | cons x xs ih=>cases f with|cons f1 f2=>cases r with|cons r1 r2=>exact .cons (zns H f1 r1) (ih f2 r2)
theorem At.fz(a:At X O s):At X (fzH V O O') s:=by
 refine⟨a.keep,λb o e=>?_,λb o e hro=>?_,a.gens,a.os,λL hL=>⟨?_,(a.ff L hL).2⟩⟩
 .rcases zaL H e with⟨xs,rfl,h1⟩|⟨ys,rfl,h1⟩|⟨_,h1,_⟩
  .exact(a.rep _ _ h1).mono (zf4 H) λ_ h=>h
  .refine qN (H.lst b ys h1) λ_ xs h2 h3=>?_;refine zj (a.isList0 (.inl (zB h2).1)) λvs h4 h5 h6=>?_;exact zt vs h4 (zpw H h3 h5) (by rw[h3.length];exact h6)
  .exact(a.rep _ _ h1).mono (zf4 H) λ_ h=>h
 .rcases zaL H e with⟨xs,rfl,h1⟩|⟨ys,rfl,h1⟩|⟨_,h1,_⟩
  .cases hro
  .cases hro
  .exact a.own _ _ h1 hro
 .cases e:fzH V O O' L with
  | none=>rfl
  | some o=>
   have h0:=(a.ff L hL).1
   rcases zaL H e with⟨xs,rfl,h1⟩|⟨ys,rfl,h1⟩|⟨_,h1,_⟩
   .rw[h1] at h0;exact absurd h0 (fN _)
   .refine qN (H.lst L ys h1) λ_ xs h2 _=>?_;rw[(zB h2).1] at h0;exact absurd h0 (fN _)
   .rw[h1] at h0;exact absurd h0 (fN _)
theorem Step.fz{B:Addr->Prop}:Step B O s (fzH V O O') s:=.mk' (λ_ _ e _ _=>e) (λb h1 h2=>by
  cases e:fzH V O O' b with
  | none=>exact absurd e h1
  | some o=>
   rcases zaL H e with⟨xs,rfl,h3⟩|⟨ys,rfl,h3⟩|⟨_,h3,_⟩
   .rw[h3] at h2;exact absurd h2 (fN _)
   .refine qN (H.lst b ys h3) λ_ xs h4 _=>?_;rw[(zB h4).1] at h2;exact absurd h2 (fN _)
   .rw[h3] at h2;cases h2) (fO _) λb xs e=>znq H e
end
theorem At.pop{X:Cx}{L:Env}{O:AHeap}{s:Shared}(a:At (X.push L) O s):At X O s:=⟨a.keep,a.rep,a.own,a.gens,a.os,λM hM=>a.ff M (fA _ hM)⟩
section
variable{X:Cx}
theorem zle{f:Addr}{ps:List Str}{body:List Stmt}{scope:Scope}{nm:List (Str×Nat)}{N:Nat}{d:Dp}{m:Env->AS}{args:List AV}{Q:zk}{Z:XP}{O₀:AHeap}(XO:X.Ok)(FN:FnOk X f ps body scope)(NO:NamesOk scope.names nm ps N)
  (hk:scope.kind = .function)(hco:scope.isCoroutine=false)(hgen:scope.isGenerator=false)(hs:∀env,EnvOk env->env.scope=scope->qp (X.push env) env nm body (m env))(hd:d.n<600)(hlen:args.length=ps.length)
  (h:∀L,m L ⟨d.n+1,d.hd⟩ (zge args N) (λfl _ O'=>Ends Q (zrs fl) O') (λc _ O'=>Z c O') O₀):CallOk X f d args Q Z O₀:=by
 unfold CallOk;intro A s vs O hσ L a rv;subst hσ;refine zeP FN.ex λo fd ho hfd hsc hbd hcl hgl hbi hcd hbind=>?_;have hvl:vs.length=ps.length:=by rw[<-rv.length];exact hlen
 have hps:ps.Nodup:=NO.psnd;have hbn:((ps.zip vs).map (·.1)).Nodup:=by
  have:(ps.zip vs).map (·.1)=ps:=by
   rw[List.map_fst_zip];exact zs4 hvl
  rw[this];exact hps
 subst hsc;refine codeAny_call_function (fd:=fd) (by have:=L.depth;have:=L.small;show A.depth<1000;exact zAm hd (by assumption)) (a.keep _ _ ho) hfd hco hgen hbd (hcd.keeps a.keep) ?_;rw[hbind vs hvl,hcl,hgl,hbi];refine G8 (wpAny_newFunctionEnv_cells hk (λx hx=>?_) λenv he s1 IC=>?_)
 .have hm:x.1∈ps:=by
   have:=gN (f:=(·.1)) hx;rwa [List.map_fst_zip (zs4 hvl)] at this
  obtain⟨i,hi⟩:=fAR.mp hm
  rcases(NO.kinds x.1 i (NO.par' i _ hi)).2 with q|q
  .exact .inl q
  .exact .inr ⟨q,zbm _ _ _ (.inl q)⟩
 subst he;generalize henv:newEnv fd.scope s.heap.objs.size Hl (cellsFrom (s.heap.objs.size+1) fd.scope.names []) (fd.qualname++".<locals>.") (some f) fd.code none builtinsNs=env at IC ⊢;have eL:env.locals=s.heap.objs.size:=by rw[<-henv];rfl
 have eC:env.cells=cellsFrom (s.heap.objs.size+1) fd.scope.names []:=by rw[<-henv];rfl
 have eS:env.scope=fd.scope:=by rw[<-henv];rfl
 have eK:∀x,env.kindOf x=fd.scope.names.lookup x:=λx=>by unfold Env.kindOf;rw[eS]
 have EO:EnvOk env:=⟨by rw[eS];exact hk,by rw[<-henv];rfl,by rw[<-henv];rfl,IC.apart⟩
 have keep:=IC.toInCall.keep;refine zY IC.toInCall.same λh1 tk hs1=>?_;have kv:KeepV O s.heap O s1.heap:=.ext keep;have a1:At (X.push env) O s1:=⟨λb o e=>keep b o (a.keep b o e),λb ao e=>(a.rep b ao e).mono kv λo ho=>keep b o ho,a.own,by rw[hs1];exact a.gens,by rw[hs1];exact a.os,λM hM=>by
  rcases fM.mp hM with rfl|hM
  .exact⟨by rw[eL];exact a.none_of_size (fO _),znE IC.toInCall.ns⟩
  .exact a.ffk keep M hM⟩
 have cnd:(env.cells.map (·.1)).Nodup:=by rw[eC];exact zdz _ _ _ NO.nodup .nil λx hx=>by simp at hx
 have new:∀c:Nat,s.heap.objs.size<=c->O c=none/\X.h₀.get? c=none:=λc hc=>⟨a.none_of_size hc,by
  cases e:X.h₀.get? c with
  | none=>rfl
  | some o=>have:=ltA (a.keep c o e);lia⟩
 have val:∀x i,nm.lookup x=some i->RepO O s1.heap ((zge args N).getD i none) ((ps.zip vs).lookup x):=λx i hx=>by
  rw[znU]
  by_cases hi:i<ps.length
  .have hp:ps[i]? = some ps[i]:=fJ hi;have hpx:=NO.par x i hx _ hp;rw[<-hpx,zka hps (zAs hvl) hp];exact(rv.getO i).mono kv
  .have:x∉ps:=λq=>by
    obtain⟨j,hj⟩:=fAR.mp q;have h2:=NO.par' j x hj;rw[hx] at h2;obtain rfl:=Hx h2;exact hi (fX.mp hj).1
   rw[zdd this,fAF (zwQ hlen hi)]
   trivial
 have F1:FR (X.push env) env nm (zge args N) O s1.heap:=by
  refine⟨(zd _ IC.toInCall.ns (λx i hx hkx=>?_)),λx i hx hkx=>?_,by rw[eL];exact new _ (fO _),⟨λx i hx=>?_,NO.inj⟩,?_,λx c hx=>?_⟩
  .rw[zmU hkx _ _ hbn,Option.or_none];exact val x i hx
  .have hsome:=zbm (x:=x) fd.scope.names (s.heap.objs.size+1) [] (.inl (by rw[<-eK];exact hkx));rw[<-eC] at hsome;obtain⟨c,hc⟩:=fBC.mp hsome;refine zI c _ hc (IC.cell x c hc) ?_;rw[zmT hkx _ _ hbn,Option.or_none];exact val x i hx
  .have:=(NO.kinds x i hx).1;have hle:=NO.le;unfold zge;rw[fF,fC,fBO];exact zBr this
  .have hle:=NO.le;unfold zge;rw[fF,fC,fBO,NO.len];exact zBu hlen hle
  .have hc:=IC.above x c hx;rw[eL] at hc;have hc':s.heap.objs.size<=c:=fAB hc;exact zae ((new c hc').1) ((new c hc').2) _ (IC.cell x c (jV cnd hx))
 refine⟨XO.nolimit.keeps λb o e=>keep b o (a.keep b o e),?_⟩;refine zlh (codeAny_func ?_);have eF:env.frame=some env.locals:=by rw[<-henv];rfl
 obtain⟨envs,hfr,FO⟩:∃envs,(A.deeper env).frames=some (env::envs)/\FrOk (X.push env) (env::envs):=by
  refine zj L.frames λenvs h1 h2 _=>?_;refine⟨envs,Around.frames_deeper h1,λe he=>?_,λM hM=>?_⟩
  .rcases fM.mp he with rfl|he
   .exact kt (by rw[eS,hk];decide) _ eF fB
   .refine qN (h2.is e he) λk1 M k2 k3=>?_;exact kt k1 M k2 (fA _ k3)
  .rcases fM.mp hM with rfl|hM
   .rw[eL];exact(new _ (fO _)).2
   .exact h2.out M hM
 have L1:Live (X.push env) ⟨d.n+1,d.hd⟩ (A.deeper env):=⟨by have:=L.depth;show A.depth+1<=301+(d.n+1);exact zwv this,by have:=L.units;show A.units+3<=20+8*(d.n+1);exact zz8 this,L.handled,hd,_,hfr,FO,λe he=>by cases he;exact⟨_,rfl⟩⟩
 have szL:s.heap.objs.size<s1.heap.objs.size:=by
  have:=IC.toInCall.ns.lt;rw[eL] at this;exact this
 have back:∀{σ2:AHeap} {s2:Shared},Step (FB env) O s1 σ2 s2->Step E0 O s σ2 s2:=λ{σ2 s2} st2=>by
  have st0:Step (FB env) O s O s1:=.same (λb o e _=>keep b o e) (fAB szL);refine(st0.trans st2).drop λb hb=>?_
  rcases hb with hb|⟨x,hx⟩
  .rw[eL] at hb;rw[hb];exact .inr (fO _)
  .have hc:=IC.above x b hx;rw[eL] at hc;exact .inr (fAB hc)
 refine G9 (hs env EO eS ⟨d.n+1,d.hd⟩ (A.deeper env) _ O s1 _ _ L1 a1 F1 (h env)) (λfl s2 hpz hsz=>jX hpz λafl l2 σ2 r2 a2 F2 st2 q2=>?_) λe s2 hpz=>qO hpz λc l2 σ2 x g he hx a2 F2 st2 f z=>?_
 case refine_2=>
  have hx:=hx.1;subst he;refine Fly.vH FO hfr eF a2 f λh' f' hsz=>?_;exact qF c σ2 x g rfl (λo e q=>hx o (keep _ _ e) q) a2.pop (back st2) ⟨f'.keepS,f'.keepX,f'.exg,f'.size,f'.exh⟩ z
 have st:=back st2;unfold Ends at q2;refine jh q2 λV σ3 v' fz fv q3=>?_;refine zn v' (fzH V σ2 σ3) (zns fz fv ?_) ((At.fz fz a2).pop) (st.trans (Step.fz fz)) (by rw[zr1 fz];exact q3);cases fl with
 | next=>cases afl with
  | next=>exact RepV.none
  | ret v=>exact r2.elim
 | ret v=>cases afl with
  | next=>exact r2.elim
  | ret av=>exact r2
 | brk=>cases afl<;>exact r2.elim
 | cont=>cases afl<;>exact r2.elim
end
def ztV(a:AV)(Q:List AV->AHeap->Prop):List AV->AHeap->Prop:=λas σ2=>Q (a::as) σ2
def zx3(F:Dp->Loc->(List AV->AHeap->Prop)->XP->AHeap->Prop)(d:Dp)(l:Loc)(Q:List AV->AHeap->Prop)(Z:XP):zk:=λa σ1=>F d l (ztV a Q) Z σ1
def zbn(ms:List AE):Dp->Loc->(List AV->AHeap->Prop)->XP->AHeap->Prop:=match ms with
 | []=>λ_ _ Q _ O=>Q [] O
 | m::ms=>λd l Q Z O=>m d l (zx3 (zbn ms) d l Q Z) Z O
noncomputable def jg(e:Expr):Bool:=!Nat.beq e.ctorIdx 22
theorem zz{e:Expr}{rest:List Expr}{env:Env}(h:jg e=true):starEach (e::rest) env=(false,eval e env)::starEach rest env:=by
 cases e<;>first|rfl|exact nob h
inductive SoundEs(X:Cx)(env:Env)(nm:List (Str×Nat)):List Expr->List AE->Prop
 | nil:SoundEs X env nm [] []
 | cons {e es m ms}:jg e=true->zg X env nm e m->SoundEs X env nm es ms->SoundEs X env nm (e::es) (m::ms)
section
variable{X:Cx}{env:Env}{nm:List (Str×Nat)}
theorem SoundEs.plain{pos:Pos}{es:List Expr}{ms:List AE}(h:SoundEs X env nm es ms):(backTo pos (starEach es env)).any (·.1)=false:=by
 induction h with
 | nil=>rfl
 | cons hs _ r ih=>
  rw[zz hs];show (false||(backTo pos (starEach _ env)).any (·.1))=false;rw[ih];rfl
theorem kz{pos:Pos}{es ms}(h0:SoundEs X env nm es ms):∀{d A l O s Q Z},Live X d A->At X O s->FR X env nm l O s.heap->zbn ms d l Q Z (vis O)->
  wpAny X.M A (spliced (backTo pos (starEach es env))) (zrk X O s Q) (liftX X O s Z) s:=by
 induction h0 with
 | nil=>intro d A l O s Q Z L a F q;exact G8 ⟨[],O,.nil,a,.refl ..,q⟩
 | @cons e es m ms hs he r ih=>
  intro d A l O s Q Z L a F q;rw[zz hs];show wpAny X.M A (spliced ((false,eval e env)::backTo pos (starEach es env))) _ _ s;refine Calls.spliced_cons (kR (he d A l O s _ Z L a F q) λav v σ1 s1 rv a1 st1 q1=>?_);refine G9 (ih L a1 (F.step a st1) q1) (λvs s2 x=>?_) λ_ _ x=>x.back st1;refine zh x λavs σ2 rvs a2 st2 q2=>?_;exact zn (av::avs) σ2 (.cons (rv.mono (st2.keepV0 a1)) rvs) a2 (st1.trans st2) q2
theorem jF{f:Value}{pos:Pos}{es ms}(h:SoundEs X env nm es ms){d A l O s Q Z}(L:Live X d A)(a:At X O s)(F:FR X env nm l O s.heap)(q:zbn ms d l Q Z (vis O)){R:Args->Shared->Prop}
  (k:∀vs s',zrk X O s Q vs s'->R ⟨vs,[]⟩ s'):wpAny X.M A (evalArgs f true (backTo pos (starEach es env)) []) R (liftX X O s Z) s:=by
 cases h with
 | nil=>exact PyProof.Rows.evalArgs_none (k [] s (zn [] O .nil a (.refl ..) q))
 | cons hs he r=>
  have:=kz (pos:=pos) (.cons hs he r) L a F q;rw[zz hs] at this ⊢;exact Calls.evalArgs_plain (G9 this (λvs s' x=>k vs s' x) λ_ _ x=>x)
end
def mkL(r:Bool)(xs:List AV)(Q:zk)(O:AHeap):Prop:=match r with
 | true=>∀p,O p=none->Q (.ref p) (O.set p (.list xs))
 | false=>Q (.lst xs) O
namespace A
def zyf(Q:zk):List AV->AHeap->Prop:=λas O'=>zcz as.length (Q (.tup as) O')
def zx9(r:Bool)(Q:zk):List AV->AHeap->Prop:=λas O'=>zcz as.length (mkL r as Q O')
def ztQ(X:Cx)(f:Addr)(d:Dp)(Q:zk)(Z:XP):List AV->AHeap->Prop:=λas O'=>CallOk X f d as Q Z O'
def tup(xs:List AE):AE:=λd l Q Z O=>zbn xs d l (zyf Q) Z O
def lst(r:Bool)(xs:List AE):AE:=λd l Q Z O=>zbn xs d l (zx9 r Q) Z O
def wE(X:Cx)(f:Addr)(args:List AE):AE:=λd l Q Z O=>zbn args d l (ztQ X f d Q Z) Z O
end A
section
variable{X:Cx}{env:Env}{nm:List (Str×Nat)}
theorem zej{A:Around}{O:AHeap}{s:Shared}{Q:zk}{E}{as:List AV}{vs:List Value}(a:At X O s)(r:RepVs O s.heap as vs)(hl:as.length<=1000000)(q:Q (.tup as) (vis O)):wpAny X.M A (newTuple vs) (liftQ X O s Q) E s:=by
 refine wpAny_newObj_type ?_ (by show vs.toArray.size<=sizeLine;rw[fZ,<-r.length,Hb];exact ziG hl);exact zn (.tup as) O (.tup hl (qc _ (Heap.get?_push_size _ rfl) rfl 0 rfl) (r.mono (.push _))) (a.push _ s.toks) (Step.push O s _ s.toks) q
theorem made{r:Bool}{O:AHeap}{s:Shared}{Q:zk}{as:List AV}{vs:List Value}{n:Nat}(a:At X O s)(rv:RepVs O s.heap as vs)(hl:as.length<=1000000)(q:mkL r as Q (vis O)){t:Nat}:liftQ X O s Q (.ref s.heap.objs.size) { s with heap:=s.heap.push (zJ vs n),toks:=t }:=by
 have h0:=a.none_of_size (fO _);cases r with
 | true=>exact⟨.ref s.heap.objs.size,_,.ref _,a.alloc (ao:=.list as) t λkv=>(zI vs n (Heap.get?_push_size _ rfl) (rv.mono kv) hl),Step.alloc a _ _ t,by rw[jr rfl];exact q _ (qh h0)⟩
 | false=>exact zn (.lst as) _ (.lst (AHeap.wA ..)) (a.alloc (ao:=.frz as) t λkv=>(zt vs (qc _ (Heap.get?_push_size _ rfl) rfl n rfl) (rv.mono kv) hl)) (Step.alloc a _ _ t) (by rw[zgH h0];exact q)
theorem zeV{r:Bool}{A:Around}{O:AHeap}{s:Shared}{Q:zk}{E}{as:List AV}{vs:List Value}(a:At X O s)(rv:RepVs O s.heap as vs)(hl:as.length<=1000000)(q:mkL r as Q (vis O)) :
  wpAny X.M A (newList vs) (liftQ X O s Q) E s:=by
 refine wpAny_newObj_type ?_ (by show vs.toArray.size<=sizeLine;rw[fZ,<-rv.length,Hb];exact ziG hl);exact made (n:=0) (t:=s.toks) a rv hl q
theorem zmv{es:List Expr}{ms:List AE}{k:Nat}{pos:Pos}(h:SoundEs X env nm es ms):zg X env nm (.Tuple es k pos) (A.tup ms):=λd A l O s Q Z L a F q=>
 Tuple_ (G9 (kz h L a F q) (λvs s1 hpz=>zh hpz λavs σ1 r a1 st q1=>jO st (zej a1 r (qI q1).1 (qI q1).2)) λ_ _ x=>x)
theorem zml{r:Bool}{es:List Expr}{ms:List AE}{pos:Pos}(h:SoundEs X env nm es ms):zg X env nm (.List es pos) (A.lst r ms):=λd A l O s Q Z L a F q=>
 List_ (G9 (kz h L a F q) (λvs s1 hpz=>zh hpz λavs σ1 rv a1 st q1=>jO st (zeV a1 rv (qI q1).1 (qI q1).2)) λ_ _ x=>x)
theorem zbf{A:Around}{s:Shared}{O:AHeap}{x:Str}{pos:Pos}{v:Value}{Q:Value->Shared->Prop}{E}(XO:X.Ok)(EO:EnvOk env)(a:At X O s)(hx:env.kindOf x=some .globalImplicit)(hd:(x==("__debug__" : Str))=false)
  (hv:X.mg x=some v)(h:Q v s):wpAny X.M A (eval (.Name x pos) env) Q E s:=
 Calls.Name_function_global EO.kind hx (Calls.loadGlobal_global (by rw[EO.glob];exact XO.g.keeps a.keep) hv h) hd
theorem z7{A:Around}{s:Shared}{O:AHeap}{x:Str}{pos:Pos}{v:Value}{Q:Value->Shared->Prop}{E}(XO:X.Ok)(EO:EnvOk env)(a:At X O s)(hx:env.kindOf x=some .globalImplicit)(hd:(x==("__debug__" : Str))=false)
  (hn:X.mg x=none)(hv:X.mb x=some v)(h:Q v s):wpAny X.M A (eval (.Name x pos) env) Q E s:=
 Calls.Name_function_global EO.kind hx (Calls.loadGlobal_builtin (by rw[EO.glob];exact XO.g.keeps a.keep) hn (by rw[EO.bi];exact XO.b.keeps a.keep) hv h) hd
theorem CallOk.call{A:Around}{O:AHeap}{s:Shared}{f:Addr}{d:Dp}{args:List AV}{Q:zk}{Z:XP}{vs:List Value}(h:CallOk X f d args Q Z (vis O))(L:Live X d A)(a:At X O s)(r:RepVs O s.heap args vs) :
  wpAny X.M A (PySem.call (.ref f) vs []) (liftQ X O s Q) (liftX X O s Z) s:=by
 unfold CallOk at h;exact wpAny_call (Hg (h A s vs O rfl L a r) λres s' x=>x)
theorem zjO{g:Str}{f:Addr}{o:Obj}{fd:FuncData}{es:List Expr}{ms:List AE}{gp pos:Pos}(XO:X.Ok)(EO:EnvOk env)(hx:env.kindOf g=some .globalImplicit)(hd:(g==("__debug__" : Str))=false)(hf:X.mg g=some (.ref f))(ho:X.h₀.get? f=some o)(hfd:o.data = .func fd)(h:SoundEs X env nm es ms) :
  zg X env nm (.Call (.Name g gp) es [] pos) (A.wE X f ms):=λd A l O s Q Z L a F q=>by
 refine Call_ (zbf XO EO a hx hd hf ?_);refine callWith_function_kw (o:=o) (fd:=fd) (jF h L a F q λvs s1 hpz=>zh hpz λavs σ1 r a1 st q1=>⟨⟨a1.keep _ _ ho,hfd⟩,?_⟩);exact jO st (q1.call L a1 r)
end
noncomputable def AO.w4 : AO->Option (List AV)
 | .list xs=>some xs
 | _=>Option.none
noncomputable def zS(O:AHeap):AV->Option (List AV)
 | .lst xs=>some xs
 | .ref p=>(O p).bind AO.w4
 | _=>Option.none
theorem zA{O:AHeap}{p:Addr}{xs:List AV}(h:O p=some (.list xs)):zS O (.ref p)=some xs:=by
 show (O p).bind AO.w4 = _;rw[h];rfl
theorem zK{O:AHeap}{x:AV}{xs:List AV}(h:zS (vis O) x=some xs):IsL O x xs:=by
 cases x with
 | lst ys=>cases h;exact .lst
 | ref p=>
  have h:(vis O p).bind AO.w4 = some xs:=h;refine zb (fAJ.mp h) λo h1 h2=>?_;cases o with
  | list ys=>cases h2;exact .ref h1
  | _=>cases h2
 | _=>cases h
noncomputable def small(n:Nat):Bool:=Nat.blt n 1152921504606846976
def ztr(r:Bool)(a b:AV)(Q:zk)(O:AHeap):Prop:=zm (zS O a) λxs=>zm (zS O b) λys=>zcz (xs.length+ys.length) (mkL r (xs++ys) Q O)
def zxE(r:Bool)(a b:AV)(Q:zk)(O:AHeap):Prop:=match a with
 | .int i=>zm b.int? λj=>Q (.int (i+j)) O
 | .tup xs=>zm b.tup? λys=>zcz (xs.length+ys.length) (Q (.tup (xs++ys)) O)
 | x=>ztr r x b Q O
def zyk(r:Bool)(a b:AV)(Q:zk)(O:AHeap):Prop:=match a with
 | .int i=>zm b.int? λj=>onB (small j.natAbs||small i.natAbs) (Q (.int (i*j)) O)
 | x=>zm (zS O x) λxs=>zm b.int? λj=>onB (decide (j<=1000000)&&decide (-1000000<=j)) (zcz (xs.length*j.toNat) (mkL r (List.replicate j.toNat xs).flatten Q O))
noncomputable def ztD(j:Int):Bool:=!(decide (j=0))&&Nat.blt j.natAbs 1073741824
noncomputable def zod(j:Int):Bool:=!(decide (j=0))
noncomputable def zt3(i j:Int):Bool:=decide (0<=j)&&decide (j<=1000)&&Nat.blt i.natAbs 18446744073709551616
def ki(a b:AV)(K:Int->Int->Prop):Prop:=zm a.int? λi=>zm b.int? λj=>K i j
def ztt(r:Bool)(op:Operator)(a b:AV)(Q:zk)(O:AHeap):Prop:=match op with
 | .Add=>zxE r a b Q O
 | .Sub=>ki a b λi j=>Q (.int (i-j)) O
 | .Mult=>zyk r a b Q O
 | .FloorDiv=>ki a b λi j=>onB (ztD j) (Q (.int (i.fdiv j)) O)
 | .Mod=>ki a b λi j=>onB (zod j) (Q (.int (i.fmod j)) O)
 | .Pow=>ki a b λi j=>onB (zt3 i j) (Q (.int (i ^ j.toNat)) O)
 | _=>False
section
variable{X:Cx}{A:Around}{O:AHeap}{s:Shared}{Q:zk}{E:Value->Shared->Prop}{x y:AV}{u v:Value}
theorem zaC{i:Int}(h:small i.natAbs=true):Builtin.Int.intBits i<=64:=by
 have h:i.natAbs<2 ^ 60:=by unfold small at h;have:=fDZ.mp h;exact this
 unfold Builtin.Int.intBits;split
 .exact y6
 .rename_i h0
  have:i.natAbs.log2<60:=(Nat.log2_lt (by intro e;simp[Int.natAbs_eq_zero] at e;subst e;simp at h0)).mpr h;exact zyW this
theorem ziH{xs ys:List AV}(a:At X O s)(rx:RepV O s.heap (.tup xs) u)(ry:RepV O s.heap (.tup ys) v)(hq:xs.length+ys.length<=1000000)(q:Q (.tup (xs++ys)) (vis O)):wpAny X.M A (binaryOp .Add u v) (liftQ X O s Q) E s:=by
 refine zh (RepV.wH rx) λt vs e0_2 hla ht rs=>?_;subst e0_2;refine zh (RepV.wH ry) λt2 ws e1_2 hlb ht2 rs2=>?_;subst e1_2;refine jp (id ht) λh2_0 ho hc n hd=>?_;obtain⟨cls,dd,data,sl⟩:=h2_0;refine jp (id ht2) λh3_0 ho2 hc2 n2 hd2=>?_;obtain⟨cls2,dd2,data2,sl2⟩:=h3_0;subst hc hd hc2 hd2;have l1:=rs.length;have l2:=rs2.length;have e:vs.toArray++ws.toArray=(vs++ws).toArray:=by simp
 by_cases hv:vs=[]
 .subst hv;cases rs;exact concat_meets (zd _ ho rfl) (zd _ ho2 rfl) noFill_tuple_add seq_tuple_add PySem.F.slot_tuple_add PySem.F.entry_tuple_add (PySem.F.args_tuple_add_2 _ _)
   (tuple_addW0 t t2 _ ws.toArray n n2 dd dd2 sl sl2 rfl) (zp ho ho2 (zbG a (.tup hlb ht2 rs2) q))
 .by_cases hw:ws=[]
  .subst hw;cases rs2;refine concat_meets (zd _ ho rfl) (zd _ ho2 rfl) noFill_tuple_add seq_tuple_add PySem.F.slot_tuple_add PySem.F.entry_tuple_add (PySem.F.args_tuple_add_2 _ _)
    (tuple_addW1 t t2 vs.toArray _ n n2 dd dd2 sl sl2 (by simpa using hv) rfl) (zp ho ho2 (zbG a (.tup hla ht rs) ?_))
   rwa [gU] at q
  .refine concat_meets (zd _ ho rfl) (zd _ ho2 rfl) noFill_tuple_add seq_tuple_add PySem.F.slot_tuple_add PySem.F.entry_tuple_add (PySem.F.args_tuple_add_2 _ _)
    (tuple_addW2 t t2 vs.toArray ws.toArray n n2 dd dd2 sl sl2 (by simpa using hv) (by simpa using hw) (by rw[fZ,fZ,Hb];exact zw6 hq l1 l2)) (zp ho ho2 ?_)
   rw[e];exact zn _ O (.tup (by rw[fF];exact hq) (qc _ (Heap.get?_push_size _ rfl) rfl 0 rfl) ((rs.append rs2).mono (.push _))) (a.push _ s.toks) (Step.push O s _ s.toks) q
theorem jW{r:Bool}(a:At X O s)(rx:RepV O s.heap x u)(ry:RepV O s.heap y v)(q:ztr r x y Q (vis O)):wpAny X.M A (binaryOp .Add u v) (liftQ X O s Q) E s:=by
 refine zb (zf q) λxs h1 q=>?_;refine zb (zf q) λys h2 q=>?_;obtain⟨hl,q⟩:=qI q;refine zq (a.isList (zK h1) rx) λp vs e7_2 _ ht rs _=>?_;subst e7_2;refine zq (a.isList (zK h2) ry) λp2 ws e8_2 _ ht2 rs2 _=>?_;subst e8_2;refine jp (id ht) λh9_0 ho hc n hd=>?_;obtain⟨cls,dd,data,sl⟩:=h9_0;refine jp (id ht2) λh10_0 ho2 hc2 n2 hd2=>?_;obtain⟨cls2,dd2,data2,sl2⟩:=h10_0;subst hc hd hc2 hd2;have l1:=rs.length;have l2:=rs2.length;have e:vs.toArray++ws.toArray=(vs++ws).toArray:=by simp
 refine concat_meets (zd _ ho rfl) (zd _ ho2 rfl) noFill_list_add seq_list_add PySem.F.slot_list_add PySem.F.entry_list_add (PySem.F.args_list_add_2 _ _)
  (list_addW p p2 vs.toArray ws.toArray n n2 dd dd2 sl sl2 (by rw[fZ,fZ,Hb];exact zw6 hl l1 l2)) (zp ho ho2 ?_)
 rw[e];exact made (n:=0) (t:=s.toks) a (rs.append rs2) (by rw[fF];exact hl) q
theorem RepVs.rep{h:Heap}{xs:List AV}{vs:List Value}(r:RepVs O h xs vs)(n:Nat):RepVs O h (List.replicate n xs).flatten (List.replicate n vs).flatten:=by
 induction n with
 | zero=>exact .nil
 | succ n ih=>exact r.append ih
theorem jD{r:Bool}(a:At X O s)(rx:RepV O s.heap x u)(ry:RepV O s.heap y v)
  (q:zm (zS (vis O) x) λxs=>zm y.int? λj=>onB (decide (j<=1000000)&&decide (-1000000<=j)) (zcz (xs.length*j.toNat) (mkL r (List.replicate j.toNat xs).flatten Q (vis O)))):wpAny X.M A (binaryOp .Mult u v) (liftQ X O s Q) E s:=by
 refine zb (zf q) λxs h1 q=>?_;refine zb (zf q) λj h2 q=>?_;obtain⟨hb,q⟩:=qB q;obtain⟨hl,qq⟩:=qI q;clear q;have hb:=gO.mp hb;refine zq (a.isList (zK h1) rx) λl vs e17_2 _ ht rs _=>?_;subst e17_2;have h2:=jd h2;subst h2;obtain⟨tk,rfl⟩:=RepV.wC ry;have hsz:vs.length*j.toNat<=1000000:=by rw[<-rs.length];exact hl
 have hsz':vs.toArray.size*j.toNat<=1000000:=by simpa using hsz
 refine jp (id ht) λh19_0 ho hcl k hd=>?_;obtain⟨cls,d,data,sl⟩:=h19_0;subst hcl hd;refine wpAny_binaryOp_repeat_ref (T:="list") (U:="int") (by decide) (zd _ ho rfl) (λs'=>typeIs_int s' j tk) noFill_list_mul PySem.F.fills_int_mul PySem.F.slot_int_rmul repeat_list PySem.F.slot_int_index.lookup
  (call_meets PySem.F.slot_int_rmul (typeIs_int s j tk) PySem.F.entry_int_rmul (PySem.F.args_int_rmul_2 _ _) (lm_int_rmul_list_any j tk l vs.toArray k d sl)
   (zr ho rfl (zd _ ho rfl) (call_meets PySem.F.slot_list_mul (zd _ ho rfl) PySem.F.entry_list_mul (PySem.F.args_list_mul_2 _ _)
    (lm_list_mul_any l vs.toArray k d sl j tk (by simp[Builtin.List.listFitsIndex];lia) (by lia) (by simp[Builtin.List.listTooLong,sizeLine];exact ziG hsz))
    ⟨ho,?_⟩)))
 rw[listMul_foldl_if];have e:(List.replicate j.toNat xs).flatten.length=xs.length*j.toNat:=by simp[fDP]
 exact made (n:=0) (t:=s.toks) a (rs.rep _) (by rw[e];exact hl) qq
theorem zk3{r:Bool}{op:Operator}(a:At X O s)(rx:RepV O s.heap x u)(ry:RepV O s.heap y v)(q:ztt r op x y Q (vis O)):wpAny X.M A (binaryOp op u v) (liftQ X O s Q) E s:=by
 have two:∀{K:Int->Int->Prop},ki x y K->∃i j t t',x = .int i/\y = .int j/\u = .int i t/\v = .int j t'/\K i j:=λq=>by
  refine zb (zf q) λi h1 q=>?_;refine zb (zf q) λj h2 q=>?_;have h1:=jd h1;have h2:=jd h2;subst h1;subst h2;obtain⟨_,rfl⟩:=RepV.wC rx;obtain⟨_,rfl⟩:=RepV.wC ry;exact j4 i j _ _ rfl rfl rfl rfl q
 cases op with
 | Add=>
  cases x with
  | int i=>
   refine zb (zf q) λj h2 q=>?_;have h2:=jd h2;subst h2;obtain⟨_,rfl⟩:=RepV.wC rx;obtain⟨_,rfl⟩:=RepV.wC ry;exact P.add_int (zax a (.int _ _) q)
  | tup xs=>
   refine zb (zf q) λys h2 q=>?_;have h2:=zqH h2;subst h2;exact ziH a rx ry (qI q).1 (qI q).2
  | str n=>exact jW (r:=r) a rx ry q
  | none=>exact jW (r:=r) a rx ry q
  | bool _=>exact jW (r:=r) a rx ry q
  | lst _=>exact jW (r:=r) a rx ry q
  | ref _=>exact jW (r:=r) a rx ry q
  | rng _ _=>exact jW (r:=r) a rx ry q
  | exc _=>exact jW (r:=r) a rx ry q
 | Sub=>refine zW (two q) λi j t t' e29_4 e29_5 e29_6 e29_7 q=>?_;subst e29_4;subst e29_5;subst e29_6;subst e29_7;exact P.sub_int (zax a (.int _ _) q)
 | Mult=>
  cases x with
  | int i=>
   refine zb (zf q) λj h2 q=>?_;have h2:=jd h2;subst h2;obtain⟨h,q⟩:=qB q;obtain⟨_,rfl⟩:=RepV.wC rx;obtain⟨_,rfl⟩:=RepV.wC ry
   rcases Bool.or_eq_true_iff.mp h with h|h
   .exact P.mul_int (zax a (.int _ _) q) (IntMulOk.of_right (zaC h))
   .exact P.mul_int (zax a (.int _ _) q) (IntMulOk.of_left (zaC h))
  | none=>exact jD (r:=r) a rx ry q
  | bool _=>exact jD (r:=r) a rx ry q
  | str _=>exact jD (r:=r) a rx ry q
  | tup _=>exact jD (r:=r) a rx ry q
  | lst _=>exact jD (r:=r) a rx ry q
  | ref _=>exact jD (r:=r) a rx ry q
  | rng _ _=>exact jD (r:=r) a rx ry q
  | exc _=>exact jD (r:=r) a rx ry q
 | FloorDiv=>
  refine zW (two q) λi j t t' e34_4 e34_5 e34_6 e34_7 q=>?_;subst e34_4;subst e34_5;subst e34_6;subst e34_7;obtain⟨h,q⟩:=qB q;have h:=gO.mp h;have h0:¬j=0:=by simpa using h.1
  exact floordiv_int h0 (zax a (.int _ _) q) (.inl (PyProof.noPylong_small (fDZ.mp h.2)))
 | Mod=>
  refine zW (two q) λi j t t' e36_4 e36_5 e36_6 e36_7 q=>?_;subst e36_4;subst e36_5;subst e36_6;subst e36_7;obtain⟨h,q⟩:=qB q;have h0:¬j=0:=by simpa [zod] using h
  exact mod_int' h0 (zax a (.int _ _) q)
 | Pow=>
  refine zW (two q) λi j t t' e38_4 e38_5 e38_6 e38_7 q=>?_;subst e38_4;subst e38_5;subst e38_6;subst e38_7;obtain⟨h,q⟩:=qB q;have h:=gO.mp h;have h1:=gO.mp h.1;exact pow_int_small (H0 h1.1) (by have:=H0 h1.2;lia) (fDZ.mp h.2) (zax a (.int _ _) q)
 | _=>exact q.elim
end
mutual
inductive Rd(O:AHeap):AV->PyData->Prop
 | none:Rd O .none .none
 | bool (b:Bool):Rd O (.bool b) (.bool b)
 | int (i:Int):Rd O (.int i) (.int i)
 | str (n:Nat):Rd O (.str n) (.str (zu n))
 | tup {xs ds}:RdL O xs ds->Rd O (.tup xs) (.tuple ds)
 | lst {xs ds}:RdL O xs ds->Rd O (.lst xs) (.list ds)
 | list {a xs ds}:O a=some (.list xs)->RdL O xs ds->Rd O (.ref a) (.list ds)
inductive RdL(O:AHeap):List AV->List PyData->Prop
 | nil:RdL O [] []
 | cons {x xs d ds}:Rd O x d->RdL O xs ds->RdL O (x::xs) (d::ds)
end
theorem Rd.wK{O:AHeap}{d:PyData}(r:Rd O .none d):d = .none:=by cases r;rfl
theorem Rd.wC{O:AHeap}{i:Int}{d:PyData}(r:Rd O (.int i) d):d = .int i:=by cases r;rfl
theorem Rd.wJ{O:AHeap}{n:Nat}{d:PyData}(r:Rd O (.str n) d):d = .str (zu n):=by cases r;rfl
theorem Rd.wH{O:AHeap}{xs:List AV}{d:PyData}(r:Rd O (.tup xs) d):∃ds,d = .tuple ds/\RdL O xs ds:=by cases r with|tup r=>exact zd _ rfl r
theorem Rd.wQ{O:AHeap}{xs:List AV}{d:PyData}(r:Rd O (.lst xs) d):∃ds,d = .list ds/\RdL O xs ds:=by cases r with|lst r=>exact zd _ rfl r
theorem RdL.wG{O:AHeap}{ds:List PyData}(r:RdL O [] ds):ds=[]:=by cases r;rfl
theorem RdL.wF{O:AHeap}{x:AV}{xs:List AV}{ds:List PyData}(r:RdL O (x::xs) ds):∃e es,ds=e::es/\Rd O x e/\RdL O xs es:=by cases r with|cons a r=>exact zI _ _ rfl a r
theorem Rd.reads{X:Cx}{O:AHeap}{s:Shared}(a:At X O s){x:AV}{d:PyData}(h:Rd (vis O) x d){v:Value}(r:RepV O s.heap x v):(∃as,Reads s.heap v d as)/\d.canLay0=true:=by
 refine Rd.rec (motive_1:=λx d _=>∀v,RepV O s.heap x v->(∃as,Reads s.heap v d as)/\d.canLay0=true) (motive_2:=λxs ds _=>∀vs,RepVs O s.heap xs vs->(∃as,ReadsAll s.heap vs ds as)/\PyData.canLayAll0 ds=true)
  ?_ ?_ ?_ ?_ ?_ ?_ ?_ ?_ ?_ h v r
 .intro v r;obtain rfl:=RepV.wK r;exact⟨⟨_,.none⟩,by simp only[PyData.canLay0]⟩
 .intro b v r;obtain rfl:=RepV.wO r;exact⟨⟨_,.bool b⟩,by simp only[PyData.canLay0]⟩
 .intro i v r;obtain⟨_,rfl⟩:=RepV.wC r;exact⟨⟨_,.int i _⟩,by simp only[PyData.canLay0]⟩
 .intro n v r;refine zb (RepV.wJ r) λt e1_1 hn=>?_;subst e1_1;exact⟨⟨_,.str _ t⟩,by simp only[PyData.canLay0];exact zil hn⟩
 .intro xs ds _ ih v r;refine zh (RepV.wH r) λ_ _ e2_2 hl ht rv=>?_;subst e2_2;refine jp ht λo ho hc n hd=>?_;obtain⟨⟨as,h⟩,h2⟩:=ih _ rv;exact⟨⟨as,.tuple ho hc hd (by simpa using h)⟩,by simp only[PyData.canLay0];exact h2⟩
 .intro xs ds _ ih v r;refine zq (a.isList .lst r) λp vs e5_2 _ h5_4 rv _=>?_;subst e5_2;refine jp h5_4 λo ho hc n hd=>?_;obtain⟨⟨as,h⟩,h2⟩:=ih _ rv;exact⟨⟨_,.list ho hc hd (by simpa using h)⟩,by simp only[PyData.canLay0];exact h2⟩
 .intro p xs ds hp _ ih v r;refine zq (a.isList (.ref hp) r) λp vs e7_2 _ h7_4 rv _=>?_;subst e7_2;refine jp h7_4 λo ho hc n hd=>?_;obtain⟨⟨as,h⟩,h2⟩:=ih _ rv;exact⟨⟨_,.list ho hc hd (by simpa using h)⟩,by simp only[PyData.canLay0];exact h2⟩
 .intro vs r;obtain rfl:=RepVs.wG r;exact⟨⟨_,.nil⟩,rfl⟩
 .intro x xs d ds _ _ h1 h2 vs r;refine zl (RepVs.wF r) λ_ _ e9_2 rv rvs=>?_;subst e9_2;obtain⟨⟨as,g1⟩,k1⟩:=h1 _ rv;obtain⟨⟨bs,g2⟩,k2⟩:=h2 _ rvs;exact⟨⟨_,.cons g1 g2⟩,by simp only[PyData.canLayAll0,k1,k2,Bool.and_self]⟩
def zmG(A:Around)(s:Shared)(x y:Value)(t:Bool):Prop:=
 ∀(prog:Hi) (w:World) (E:Value->Shared->Prop) (Q:Value->Shared->Prop),Q (.bool t) s->wpAny (model prog w) A (richCompare .Lt x y) Q E s
noncomputable def LtZ(A:Around)(s:Shared)(f:Bool):List (Value×Value)->Bool->Prop
 | [],t=>t=f
 | p::r,t=>(EqAt A s p.1 p.2 true/\LtZ A s f r t)\/(EqAt A s p.1 p.2 false/\zmG A s p.1 p.2 t)
theorem zeY(l b:Value):Builtin.«tuple.__lt__» ⟨[l,b],[]⟩=(do
  if !(<-isInstance b (.type "tuple")) then return <-ret .notImplemented
  let xs <-Builtin.Tuple.tupleItemsOf l
  let ys <-Builtin.Tuple.tupleItemsOf b
  for (x,y) in xs.toList.zip ys.toList do
   if !(<-eqBool x y) then
    rule "tuple.compare.by-the-first-pair-that-differs";return <-ret (<-richCompare .Lt x y)
  ret (Builtin.Tuple.tupleCompareSizes .Lt xs.size ys.size)):=rfl
theorem zlK{A:Around}{s:Shared}{l b:Addr}{xs ys:List Value}{t:Bool}(hl:IsTup s.heap l xs.toArray)(hb:IsTup s.heap b ys.toArray)(hu:A.units<cLine)(h:LtZ A.in1 s (decide (xs.length<ys.length)) (xs.zip ys) t):zmG A s (.ref l) (.ref b) t:=by
 intro prog w E Q q;refine wpAny_richCompare_same_or (op:=.Lt) hl.typeIs hb.typeIs F.slot_tuple_lt (He F.slot_tuple_lt hl.typeIs F.entry_tuple_lt ?_ (F.args_tuple_lt_2 _ _)) (.inr hu);rw[zeY];refine G7 (wpAny_isInstance (T:="tuple") (b:=true) hb.typeIs AutoSeq1.sub_tuple_tuple ?_);refine G7 (tupleItemsOf_ hl (G7 (tupleItemsOf_ hb ?_)));refine G7 ?_;refine Hd _ (λrest b s'=>b=(none,())/\s'=s/\LtZ A.in1 s (decide (xs.length<ys.length)) rest t) _ ?_ ?_ _ _ (zp rfl rfl h)
 .intro p rest b s' hR;refine jb hR λe0 e1 hL=>?_;subst e0 e1
  rcases hL with⟨he,hr⟩|⟨he,hr⟩
  .exact G7 (he prog w _ _ (G8 (zp rfl rfl hr)))
  .refine G7 (he prog w _ _ (G7 (Hc (G7 (hr prog w _ _ (G7 (G8 (G8 ?_))))))));exact G8 (zt _ rfl (λe=>nomatch e) q)
 .intro b s' hR;refine jb hR λe0 e1 hL=>?_;subst e0 e1;have hL:t=decide (xs.length<ys.length):=hL;subst hL;exact G8 (zt _ rfl (λe=>nomatch e) q)
mutual
noncomputable def ltD:PyData->PyData->Option Bool
 | .int i,.int j=>some (decide (i<j))
 | .str x,.str y=>some (decide (x.cps.toList<y.cps.toList))
 | .tuple xs,.tuple ys=>zbz xs ys
 | _,_=>none
noncomputable def zbz:List PyData->List PyData->Option Bool
 | [],[]=>some false
 | [],_::_=>some true
 | _::_,[]=>some false
 | x::xs,y::ys=>if PyData.eqv x y then zbz xs ys else ltD x y
end
theorem zcO(a b:Int):ltD (.int a) (.int b)=some (decide (a<b)):=rfl
theorem znX(x y:Str):ltD (.str x) (.str y)=some (decide (x.cps.toList<y.cps.toList)):=rfl
theorem zd5(xs ys:List PyData):ltD (.tuple xs) (.tuple ys)=zbz xs ys:=rfl
theorem zgf:zbz [] []=some false:=rfl
theorem zpZ(y:PyData)(ys:List PyData):zbz [] (y::ys)=some true:=rfl
theorem zpY(x:PyData)(xs:List PyData):zbz (x::xs) []=some false:=rfl
theorem qH(x y:PyData)(xs ys:List PyData):zbz (x::xs) (y::ys)=if PyData.eqv x y then zbz xs ys else ltD x y:=rfl
theorem ju{h:Heap}{vs:List Value}{d:PyData}{ds:List PyData}{as:List Addr}(r:ReadsAll h vs (d::ds) as):∃v vs' a1 a2,vs=v::vs'/\Reads h v d a1/\ReadsAll h vs' ds a2:=
 (readsAll_cons_inv r).imp λ_ h=>h.imp λ_ h=>h.imp λ_ h=>h.imp λ_ h=>⟨h.1,h.2.2⟩
theorem jK{h:Heap}{vs:List Value}{as:List Addr}(r:ReadsAll h vs [] as):vs=[]:=(readsAll_nil_inv r).1
theorem zba{h:Heap}{v:Value}{i:Int}{as:List Addr}(r:Reads h v (.int i) as):∃t,v = .int i t:=(reads_int_inv r).imp λ_ h=>h.1
theorem zbb{h:Heap}{v:Value}{x:Str}{as:List Addr}(r:Reads h v (.str x) as):∃t,v = .str x t:=(reads_str_inv r).imp λ_ h=>h.1
theorem zsi{M:PyData->PyData->Bool->Prop}(hi:∀i j:Int,M (.int i) (.int j) (decide (i<j)))(hs:∀x y:Str,M (.str x) (.str y) (decide (x.cps.toList<y.cps.toList)))(ht:∀xs ys t,zbz xs ys=some t->M (.tuple xs) (.tuple ys) t)
  {da db:PyData}{t:Bool}(e:ltD da db=some t):M da db t:=by
 cases da with
 | int i=>cases db with
  | int j=>exact Hx e▸hi i j
  | _=>exact nos e
 | str x=>cases db with
  | str y=>exact Hx e▸hs x y
  | _=>exact nos e
 | tuple xs=>cases db with
  | tuple ys=>exact ht xs ys t e
  | _=>exact nos e
 | _=>exact nos e
def LtR(s:Shared)(da:PyData):Prop:=∀{A:Around} (db:PyData) {a b:Value} {as bs:List Addr} {t:Bool},Reads s.heap a da as->Reads s.heap b db bs->da.canLay0=true->db.canLay0=true->A.units+2*da.depth+10<cLine->ltD da db=some t->zmG A s a b t
theorem zlI{s:Shared}{xs:List PyData}:(∀x∈xs,LtR s x)->∀{A:Around} {ys:List PyData} {vs ws:List Value} {as bs:List Addr} {f t:Bool},ReadsAll s.heap vs xs as->ReadsAll s.heap ws ys bs->PyData.canLayAll0 xs=true->PyData.canLayAll0 ys=true->A.units+2*PyData.depthAll xs+10<cLine->zbz xs ys=some t->f=decide (vs.length<ws.length)->LtZ A s f (vs.zip ws) t:=by
 induction xs with
 | nil=>
  intro _ A ys vs ws as bs f t rx ry ha hb hu e hf;rw[jK rx] at hf ⊢;cases ys with
  | nil=>rw[jK ry] at hf;exact(Hx e).symm.trans hf.symm
  | cons y ys=>refine qK (ju ry) λ_ _ _ _ z1 _ _=>?_;rw[z1] at hf;exact(Hx e).symm.trans hf.symm
 | cons x xs ih=>
  intro H A ys vs ws as bs f t rx ry ha hb hu e hf;refine qK (ju rx) λ_ _ _ _ z1 h1 h2=>?_;rw[z1] at hf ⊢;cases ys with
  | nil=>rw[jK ry] at hf ⊢;exact(Hx e).symm.trans hf.symm
  | cons y ys=>
   refine qK (ju ry) λ_ _ _ _ z1 k1 k2=>?_;rw[z1] at hf ⊢;have ha:=(gX _ _).mp ha;have hb:=(gX _ _).mp hb;have hu:A.units+2*max x.depth (PyData.depthAll xs)+10<cLine:=hu;have heq:=eqAt_reads x y A s _ _ _ _ h1 k1 ha.1 hb.1 (zxe hu);rw[qH] at e;cases hE:PyData.eqv x y with
   | true=>rw[hE] at e heq;exact .inl ⟨heq,ih (λz hz=>H z (fA _ hz)) h2 k2 ha.2 hb.2 (zw4 hu) e (hf.trans (decide_eq_decide.mpr fCS))⟩
   | false=>rw[hE] at e heq;exact .inr ⟨heq,H x fB y h1 k1 ha.1 hb.1 (zw3 hu) e⟩
theorem znc{n:Nat}{xs:List PyData}(h:PyData.depthAll xs<=n):∀x∈xs,x.depth<=n:=by
 induction xs with
 | nil=>exact λ_ h=>nomatch h
 | cons y ys ih=>exact fR.mpr ⟨fE (Nat.le_max_left _ _) h,ih (fE (Nat.le_max_right _ _) h)⟩
theorem zrl{s:Shared}{n:Nat}(H:∀xs,(PyData.tuple xs).depth<=n->∀x∈xs,LtR s x)(da:PyData)(hn:da.depth<=n):LtR s da:=by
 intro A db a b as bs t ra rb ha hb hu e;refine zsi (M:=λda db t=>da.depth<=n->Reads s.heap a da as->Reads s.heap b db bs->da.canLay0=true->db.canLay0=true->A.units+2*da.depth+10<cLine->zmG A s a b t) ?_ ?_ ?_ e hn ra rb ha hb hu
 .intro i j _ ra rb _ _ _;refine jo (zba ra) λ_ z1=>jo (zba rb) λ_ z2=>?_;rw[z1,z2];exact λprog w E Q q=>P.lt_int q
 .intro i j _ ra rb _ _ _;refine jo (zbb ra) λ_ z1=>jo (zbb rb) λ_ z2=>?_;rw[z1,z2];exact λprog w E Q q=>P.lt_str q
 .intro xs ys t e hn ra rb ha hb hu;refine zl (reads_tuple_items ra) λ_ _ z1 h1 hr=>zl (reads_tuple_items rb) λ_ _ z2 h2 hr2=>?_;rw[z1,z2];exact zlK h1 h2 (zAQ hu) (zlI (H xs hn) hr hr2 ha hb (zAP hu) e rfl)
theorem zlJ{s:Shared}(n:Nat):∀da:PyData,da.depth<=n->LtR s da:=by
 induction n with
 | zero=>exact zrl λxs h=>absurd h (Nat.not_succ_le_zero _)
 | succ n ih=>exact zrl λxs h=>λx hx=>ih x (znc (fBJ h) x hx)
theorem zhE{A:Around}{s:Shared}(da db:PyData){a b:Value}{as bs:List Addr}{t:Bool}(ra:Reads s.heap a da as)(rb:Reads s.heap b db bs)(ha:da.canLay0=true)(hb:db.canLay0=true)(hu:A.units+2*da.depth+10<cLine)(e:ltD da db=some t):zmG A s a b t:=zlJ _ da (fO _) db ra rb ha hb hu e
noncomputable def AV.isNone:AV->Bool
 | .none=>true
 | _=>false
@[irreducible] noncomputable def eqG(a b:AV)(Q:Bool->AHeap->Prop)(O:AHeap):Prop:=∃x y,Rd O a x/\Rd O b y/\x.depth<=100/\Q (PyData.eqv x y) O
@[irreducible] noncomputable def ltG(a b:AV)(Q:Bool->AHeap->Prop)(O:AHeap):Prop:=∃x y t,Rd O a x/\Rd O b y/\x.depth<=100/\ltD x y=some t/\Q t O
@[irreducible] noncomputable def inG(x c:AV)(Q:Bool->AHeap->Prop)(O:AHeap):Prop:=∃ds d,(Rd O c (.list ds)\/Rd O c (.tuple ds))/\Rd O x d/\PyData.depthAll ds<=100/\Q (ds.any λy=>PyData.eqv y d) O
@[irreducible] noncomputable def inR(x:AV)(p:Addr)(Q:Bool->AHeap->Prop)(O:AHeap):Prop:=(∃kvs k,O p=some (.tdict kvs)/\x=zx k/\Q (Tab.at kvs k).isSome O)\/(∃fs n,O p=some (.idict fs)/\x = .str n/\Q (zbk fs n).isSome O)\/inG x (.ref p) Q O
def eqF(a b:AV)(Q:Bool->AHeap->Prop)(O:AHeap):Prop:=match a with
 | .int i=>(match b with
  | .int j=>Q (decide (i=j)) O
  | _=>eqG a b Q O)
 | .str n=>(match b with
  | .str m=>Q (Nat.beq n m) O
  | _=>eqG a b Q O)
 | _=>eqG a b Q O
def inF(x c:AV)(Q:Bool->AHeap->Prop)(O:AHeap):Prop:=match c with
 | .ref p=>inR x p Q O
 | _=>inG x c Q O
def ltF(a b:AV)(Q:Bool->AHeap->Prop)(O:AHeap):Prop:=match a with
 | .int i=>zm b.int? λj=>Q (decide (i<j)) O
 | _=>ltG a b Q O
def ztC(op:CmpOp)(a b:AV)(Q:Bool->AHeap->Prop)(O:AHeap):Prop:=match op with
 | .Eq=>eqF a b Q O
 | .NotEq=>eqF a b (λt O'=>Q (!t) O') O
 | .Lt=>ltF a b Q O
 | .LtE=>ki a b λi j=>Q (decide (i<=j)) O
 | .Gt=>ki a b λi j=>Q (decide (i>j)) O
 | .GtE=>ki a b λi j=>Q (decide (i>=j)) O
 | .In=>inF a b Q O
 | .NotIn=>inF a b (λt O'=>Q (!t) O') O
 | .Is=>onB b.isNone (Q a.isNone O)
 | .IsNot=>onB b.isNone (Q (!a.isNone) O)
section
variable{X:Cx}{A:Around}{O:AHeap}{s:Shared}{E:Value->Shared->Prop}{d:Dp}{x y:AV}{u v:Value}
theorem zcM{R:Bool->Shared->Prop}(rx:RepV O s.heap x u)(h:R x.isNone s):wpAny X.M A (isSame u .none) R E s:=by
 cases rx<;>exact G8 h
theorem zeF{R:Bool->AHeap->Prop}{t:Bool}(a:At X O s)(q:R t (vis O)):liftB X O s R t s:=(zt O a (.refl ..) q)
def zfD(X:Cx)(O:AHeap)(s:Shared)(R:Bool->AHeap->Prop):Value->Shared->Prop:=λw s'=>∃t,w = .bool t/\liftB X O s R t s'
theorem zfe{R:Bool->AHeap->Prop}(L:Live X d A)(a:At X O s)(rx:RepV O s.heap x u)(ry:RepV O s.heap y v)(q:inG x y R (vis O)):wpAny X.M A (compareOp .In u v) (zfD X O s R) E s:=by
 have room:=L.room;unfold inG at q;obtain⟨ds,dd,hc,hx,hd1,q⟩:=q;obtain⟨⟨as,r1⟩,kd⟩:=hx.reads a rx;have hu:A.units+1+min (PyData.depthAll ds) dd.depth<cLine:=by
  have:min (PyData.depthAll ds) dd.depth<=PyData.depthAll ds:=Nat.min_le_left _ _;exact zCm room hd1
 rcases hc with hc|hc
 .obtain⟨⟨bs,r2⟩,kc⟩:=hc.reads a ry;exact in_list_reads r2 r1 (by simpa only[PyData.canLay0] using kc) kd hu (zd _ rfl (zeF a q))
 .obtain⟨⟨bs,r2⟩,kc⟩:=hc.reads a ry;exact in_tuple_reads r2 r1 (by simpa only[PyData.canLay0] using kc) kd hu (zd _ rfl (zeF a q))
theorem zir{R:Bool->AHeap->Prop}{w:Value}{s':Shared}(h:liftQ X O s (λv O'=>∃t,v = .bool t/\R t O') w s'):zfD X O s R w s':=by
 refine zi4 h λav O' r a' st t e3_6 q=>?_;subst e3_6;obtain rfl:=RepV.wO r;exact zhk t rfl O' a' st q
theorem zhm{R:Bool->AHeap->Prop}(L:Live X d A)(a:At X O s)(rx:RepV O s.heap x u)(ry:RepV O s.heap y v)(q:inF x y R (vis O)):wpAny X.M A (compareOp .In u v) (zfD X O s R) E s:=by
 cases y with
 | ref p=>
  have qr:inR x p R (vis O):=q;clear q;unfold inR at qr
  rcases qr with⟨kvs,k,hp,rfl,q⟩|⟨fs,n,hp,rfl,q⟩|q
  .obtain rfl:=RepV.wM ry;exact G9 (zsK (Q:=λv O'=>∃t,v = .bool t/\R t O') L a (zB hp).1 rx (zd _ rfl q)) (λw s' h=>zir h) λ_ _ e=>e
  .obtain rfl:=RepV.wM ry;exact G9 (zuh (Q:=λv O'=>∃t,v = .bool t/\R t O') a (zB hp).1 rx (zd _ rfl q)) (λw s' h=>zir h) λ_ _ e=>e
  .exact zfe L a rx ry q
 | _=>exact zfe L a rx ry q
theorem zg9{R:Bool->AHeap->Prop}(L:Live X d A)(a:At X O s)(rx:RepV O s.heap x u)(ry:RepV O s.heap y v)(q:eqF x y R (vis O)) :
  wpAny X.M A (compareOp .Eq u v) (λw s'=>∃t,w = .bool t/\liftB X O s R t s') E s/\wpAny X.M A (compareOp .NotEq u v) (λw s'=>∃t,w = .bool (!t)/\liftB X O s R t s') E s:=by
 have room:=L.room;have gen:eqG x y R (vis O)->wpAny X.M A (compareOp .Eq u v) (λw s'=>∃t,w = .bool t/\liftB X O s R t s') E s/\wpAny X.M A (compareOp .NotEq u v) (λw s'=>∃t,w = .bool (!t)/\liftB X O s R t s') E s:=by
  intro q;unfold eqG at q;refine zh q λda db h1 h2 k1 q=>?_;obtain⟨⟨as,r1⟩,c1⟩:=h1.reads a rx;obtain⟨⟨bs,r2⟩,c2⟩:=h2.reads a ry;have hm:min da.depth db.depth<=da.depth:=Nat.min_le_left _ _;exact⟨compareEq_reads r1 r2 c1 c2 (zw5 room k1) (zd _ rfl (zeF a q)),compareNe_reads r1 r2 c1 c2 (zw5 room k1) (zd _ rfl (zeF a q))⟩
 cases x with
 | int i=>
  cases y with
  | int j=>
   refine gen ?_;unfold eqG;refine zn _ _ (.int i) (.int j) (by simp only[PyData.depth];exact y5) ?_;have e:PyData.eqv (.int i) (.int j)=decide (i=j):=by
    simp only[PyData.eqv]
    by_cases h:i=j
    .rw[Hz h,beq_iff_eq.mpr h]
    .rw[Hy h,beq_eq_false_iff_ne.mpr h]
   exact q
  | _=>exact gen q
 | str n=>
  cases y with
  | str m=>
   refine gen ?_;unfold eqG;refine zn _ _ (.str n) (.str m) (by simp only[PyData.depth];exact y5) ?_;cases rx with
   | str hn t=>
    refine zb (RepV.wJ ry) λt' e7_1 hm=>?_;subst e7_1;have e:PyData.eqv (.str (zu n)) (.str (zu m))=Nat.beq n m:=by
     rw[zsq];simp only[PyData.eqv]
     by_cases h:n=m
     .subst h;rw[Hz rfl,beq_iff_eq.mpr rfl]
     .rw[Hy h,beq_eq_false_iff_ne.mpr λe=>h (kW hn hm e)]
    rw[e];exact q
  | _=>exact gen q
 | _=>exact gen q
theorem za4{op:CmpOp}{R:Bool->AHeap->Prop}(L:Live X d A)(a:At X O s)(rx:RepV O s.heap x u)(ry:RepV O s.heap y v)(q:ztC op x y R (vis O)):wpAny X.M A (compareOp op u v) (zfD X O s R) E s:=by
 have room:=L.room;have two:∀{K:Int->Int->Prop},ki x y K->∃i j t t',x = .int i/\y = .int j/\u = .int i t/\v = .int j t'/\K i j:=λq=>by
  refine zb (zf q) λi h1 q=>?_;refine zb (zf q) λj h2 q=>?_;have h1:=jd h1;have h2:=jd h2;subst h1;subst h2;obtain⟨_,rfl⟩:=RepV.wC rx;obtain⟨_,rfl⟩:=RepV.wC ry;exact j4 i j _ _ rfl rfl rfl rfl q
 have neg:∀{w:Value} {s':Shared},(∃t,w = .bool (!t)/\liftB X O s (λt O'=>R (!t) O') t s')->zfD X O s R w s':=λ{w s'} h=>by
  refine kE h λt e O' a' st q=>?_;exact zhk (!t) e O' a' st q
 cases op with
 | Eq=>exact(zg9 L a rx ry q).1
 | NotEq=>
  have q:eqF x y (λt O'=>R (!t) O') (vis O):=q;exact G9 (zg9 L a rx ry q).2 (λw s' h=>neg h) λ_ _ e=>e
 | Lt=>
  have gen:ltG x y R (vis O)->wpAny X.M A (compareOp .Lt u v) (zfD X O s R) E s:=by
   intro q;unfold ltG at q;refine jX q λda db t h1 h2 k1 ht q=>?_;obtain⟨⟨as,r1⟩,c1⟩:=h1.reads a rx;obtain⟨⟨bs,r2⟩,c2⟩:=h2.reads a ry;exact zhE da db r1 r2 c1 c2 (zA5 room k1) ht _ _ _ _ (zd _ rfl (zeF a q))
  cases x with
  | int i=>
   refine zb (zf q) λj h2 q=>?_;have h2:=jd h2;subst h2;obtain⟨_,rfl⟩:=RepV.wC rx;obtain⟨_,rfl⟩:=RepV.wC ry;exact P.lt_int (zd _ rfl (zeF a q))
  | _=>exact gen q
 | LtE=>refine zW (two q) λi j t t' e19_4 e19_5 e19_6 e19_7 q=>?_;subst e19_4;subst e19_5;subst e19_6;subst e19_7;exact P.le_int ⟨_,rfl,zeF a q⟩
 | Gt=>refine zW (two q) λi j t t' e20_4 e20_5 e20_6 e20_7 q=>?_;subst e20_4;subst e20_5;subst e20_6;subst e20_7;exact P.gt_int ⟨_,rfl,zeF a q⟩
 | GtE=>refine zW (two q) λi j t t' e21_4 e21_5 e21_6 e21_7 q=>?_;subst e21_4;subst e21_5;subst e21_6;subst e21_7;exact P.ge_int ⟨_,rfl,zeF a q⟩
 | In=>exact zhm L a rx ry q
 | NotIn=>
  have q:inF x y (λt O'=>R (!t) O') (vis O):=q;refine zlS (zhm L a rx ry q) λt s' h=>?_;refine kE h λt' e O' a' st q=>?_;cases e;exact⟨_,rfl,O',a',st,q⟩
 | Is=>
  obtain⟨h,q⟩:=qB q;cases y with
  | none=>obtain rfl:=RepV.wK ry;exact G7 (zcM rx (G8 (zd _ rfl (zeF a q))))
  | _=>cases h
 | IsNot=>
  obtain⟨h,q⟩:=qB q;cases y with
  | none=>obtain rfl:=RepV.wK ry;exact G7 (zcM rx (G8 (zd _ rfl (zeF a q))))
  | _=>cases h
end
namespace A
def ztP(r:Bool)(op:Operator)(Q:zk)(a:AV):zk:=λb σ2=>ztt r op a b Q σ2
def zx4(r:Bool)(op:Operator)(y:AE)(d:Dp)(l:Loc)(Q:zk)(Z:XP):zk:=λa σ1=>y d l (ztP r op Q a) Z σ1
def kOr(y:AE)(d:Dp)(l:Loc)(Q:zk)(Z:XP):zk:=λa σ1=>zm a.bool? λb=>cB b (Q (.bool true) σ1) (y d l Q Z σ1)
def zx2(y:AE)(d:Dp)(l:Loc)(Q:zk)(Z:XP):zk:=λa σ1=>zm a.bool? λb=>cB b (y d l Q Z σ1) (Q (.bool false) σ1)
def zyc(Q:zk):zk:=λa σ1=>zm a.bool? λb=>Q (.bool (!b)) σ1
def zyb(Q:zk):zk:=λa σ1=>zm a.int? λi=>Q (.int (-i)) σ1
def bin(r:Bool)(op:Operator)(x y:AE):AE:=λd l Q Z O=>x d l (zx4 r op y d l Q Z) Z O
def neg(x:AE):AE:=λd l Q Z O=>x d l (zyb Q) Z O
def wU(x:AE):AE:=λd l Q Z O=>x d l (zyc Q) Z O
def vL(x y:AE):AE:=λd l Q Z O=>x d l (zx2 y d l Q Z) Z O
def or_(x y:AE):AE:=λd l Q Z O=>x d l (kOr y d l Q Z) Z O
def zx5(b:AV)(F:AV->AHeap->Prop)(e:Bool)(Q:zk)(t:Bool)(σ2:AHeap):Prop:=match e with
 | true=>Q (.bool t) σ2
 | false=>cB t (F b σ2) (Q (.bool false) σ2)
def zsb(o:CmpOp)(a:AV)(F:AV->AHeap->Prop)(e:Bool)(Q:zk):zk:=λb σ1=>ztC o a b (zx5 b F e Q) σ1
def w3(d:Dp)(l:Loc)(Q:zk)(Z:XP)(a:AV)(ops:List (CmpOp×AE))(O:AHeap):Prop:=match ops with
 | []=>False
 | o::r=>o.2 d l (zsb o.1 a (λb σ2=>w3 d l Q Z b r σ2) r.isEmpty Q) Z O
def ztR(ops:List (CmpOp×AE))(d:Dp)(l:Loc)(Q:zk)(Z:XP):zk:=λa σ1=>w3 d l Q Z a ops σ1
def cmp(x:AE)(ops:List (CmpOp×AE)):AE:=λd l Q Z O=>x d l (ztR ops d l Q Z) Z O
end A
section
variable{X:Cx}{env:Env}{nm:List (Str×Nat)}
theorem zma{r:Bool}{op:Operator}{e1 e2:Expr}{m1 m2:AE}{pos:Pos}(h1:zg X env nm e1 m1)(h2:zg X env nm e2 m2):zg X env nm (.BinOp e1 op e2 pos) (A.bin r op m1 m2):=λd A l O s Q Z L a F q=>
 wpAny_BinOp (kR (h1 d A l O s _ Z L a F q) λav v σ1 s1 rv a1 st1 q1=>
  G9 (h2 d A l σ1 s1 _ Z L a1 (F.step a st1) q1) (λv2 s2 hpz=>zh hpz λav2 σ2 rv2 a2 st2 q2=>jO (st1.trans st2) (zk3 a2 (rv.mono (st2.keepV0 a1)) rv2 q2)) λ_ _ x=>x.back st1)
theorem zmo{e:Expr}{m:AE}{pos:Pos}(h:zg X env nm e m):zg X env nm (.UnaryOp .USub e pos) (A.neg m):=λd A l O s Q Z L a F q=>by
 refine G7 (kR (h d A l O s _ Z L a F q) λav v σ1 s1 rv a1 st1 hpx=>?_);refine zb (zf hpx) λi hi q1=>?_;have hi:=jd hi;subst hi;obtain⟨_,rfl⟩:=RepV.wC rv;exact G7 (Hh (Ha (P.neg_int (liftQ.back st1 (zax a1 (.int _ _) q1)))))
theorem zmq{e:Expr}{m:AE}{pos:Pos}(h:zg X env nm e m):zg X env nm (.UnaryOp .Not e pos) (A.wU m):=λd A l O s Q Z L a F q=>by
 refine G7 (kR (h d A l O s _ Z L a F q) λav v σ1 s1 rv a1 st1 hpx=>?_);refine zb (zf hpx) λb hb q1=>?_;have hb:=zbL hb;subst hb;obtain rfl:=RepV.wO rv;refine G7 (Hh (Ha ?_));exact Ha (G7 (wpAny_truthy_bool (G8 (liftQ.back st1 (zbG a1 (.bool _) q1)))))
theorem zjL{e:Expr}{m:AE}{pos:Pos}(h:qz X env nm e m):qz X env nm (.UnaryOp .Not e pos) (A.wU m):=λd A l O s Q Z L a F q=>by
 exact G7 (G9 (h d A l O s (λb σ1=>Q (!b) σ1) Z L a F q) (λb s1 hpz=>zj hpz λσ1 a1 st1 q1=>G8 (zt σ1 a1 st1 q1)) λ_ _ x=>x)
def zgN(ms:List AE):AE:=match ms with
 | []=>λ_ _ _ _ _=>False
 | x::r=>match r with
  | []=>x
  | _::_=>A.vL x (zgN r)
def orL(ms:List AE):AE:=match ms with
 | []=>λ_ _ _ _ _=>False
 | x::r=>match r with
  | []=>x
  | _::_=>A.or_ x (orL r)
inductive SoundEBs(X:Cx)(env:Env)(nm:List (Str×Nat)):List Expr->List AE->Prop
 | nil:SoundEBs X env nm [] []
 | cons {e es m ms}:zg X env nm e m->qz X env nm e m->SoundEBs X env nm es ms->SoundEBs X env nm (e::es) (m::ms)
theorem zl9{pos:Pos}{es:List Expr}{ms:List AE}(h:SoundEBs X env nm es ms):zg X env nm (.BoolOp .And es pos) (zgN ms):=by
 induction h with
 | nil=>intro d A l O s Q Z L a F q;exact q.elim
 | @cons e es m ms h hb r ih=>
  intro d A l O s Q Z L a F q;show wpAny X.M A (boolOp pos .And (evalEach (e::es) env)) _ _ s;cases r with
  | nil=>exact h d A l O s Q Z L a F q
  | @cons e2 es m2 ms h2 hb2 r=>
   refine G7 (kR (h d A l O s _ Z L a F q) λav v σ1 s1 rv a1 st1 hpx=>?_);refine zb (zf hpx) λb hb' q1=>?_;have hb':=zbL hb';subst hb';obtain rfl:=RepV.wO rv;refine G7 (Hh (G7 (Ha (wpAny_truthy_bool ?_))));cases b with
   | false=>exact G8 (liftQ.back st1 (zbG a1 (.bool _) q1))
   | true=>exact jO st1 (ih d A l σ1 s1 Q Z L a1 (F.step a st1) q1)
theorem zoN{pos:Pos}{es:List Expr}{ms:List AE}(h:SoundEBs X env nm es ms):zg X env nm (.BoolOp .Or es pos) (orL ms):=by
 induction h with
 | nil=>intro d A l O s Q Z L a F q;exact q.elim
 | @cons e es m ms h hb r ih=>
  intro d A l O s Q Z L a F q;show wpAny X.M A (boolOp pos .Or (evalEach (e::es) env)) _ _ s;cases r with
  | nil=>exact h d A l O s Q Z L a F q
  | @cons e2 es m2 ms h2 hb2 r=>
   refine G7 (kR (h d A l O s _ Z L a F q) λav v σ1 s1 rv a1 st1 hpx=>?_);refine zb (zf hpx) λb hb' q1=>?_;have hb':=zbL hb';subst hb';obtain rfl:=RepV.wO rv;refine G7 (Hh (G7 (Ha (wpAny_truthy_bool ?_))));cases b with
   | true=>exact G8 (liftQ.back st1 (zbG a1 (.bool _) q1))
   | false=>exact jO st1 (ih d A l σ1 s1 Q Z L a1 (F.step a st1) q1)
theorem zjJ{pos:Pos}{es:List Expr}{ms:List AE}(h:SoundEBs X env nm es ms):qz X env nm (.BoolOp .And es pos) (zgN ms):=by
 induction h with
 | nil=>intro d A l O s Q Z L a F q;exact q.elim
 | @cons e es m ms h hb r ih=>
  intro d A l O s Q Z L a F q;show wpAny X.M A (allTrue .And (e::es) env) _ _ s;cases r with
  | nil=>
   refine G7 (G9 (hb d A l O s Q Z L a F q) (λb s1 x=>?_) λ_ _ x=>x);cases b with
   | false=>exact G8 x
   | true=>exact G8 x
  | @cons e2 es m2 ms h2 hb2 r=>
   refine G7 (G9 (hb d A l O s (λb σ1=>cB b (zgN (m2::ms) d l (isB Q) Z σ1) (Q false σ1)) Z L a F q) (λb s1 x=>?_) λ_ _ x=>x);refine zj x λσ1 a1 st1 q1=>?_;cases b with
   | false=>exact G8 (zt σ1 a1 st1 q1)
   | true=>exact ze3 st1 (ih d A l σ1 s1 Q Z L a1 (F.step a st1) q1)
theorem zl8{pos:Pos}{es:List Expr}{ms:List AE}(h:SoundEBs X env nm es ms):qz X env nm (.BoolOp .Or es pos) (orL ms):=by
 induction h with
 | nil=>intro d A l O s Q Z L a F q;exact q.elim
 | @cons e es m ms h hb r ih=>
  intro d A l O s Q Z L a F q;show wpAny X.M A (allTrue .Or (e::es) env) _ _ s;cases r with
  | nil=>
   refine G7 (G9 (hb d A l O s Q Z L a F q) (λb s1 x=>?_) λ_ _ x=>x);cases b with
   | false=>exact G8 x
   | true=>exact G8 x
  | @cons e2 es m2 ms h2 hb2 r=>
   refine G7 (G9 (hb d A l O s (λb σ1=>cB b (Q true σ1) (orL (m2::ms) d l (isB Q) Z σ1)) Z L a F q) (λb s1 x=>?_) λ_ _ x=>x);refine zj x λσ1 a1 st1 q1=>?_;cases b with
   | true=>exact G8 (zt σ1 a1 st1 q1)
   | false=>exact ze3 st1 (ih d A l σ1 s1 Q Z L a1 (F.step a st1) q1)
inductive SoundOps(X:Cx)(env:Env)(nm:List (Str×Nat)):List CmpOp->List Expr->List (CmpOp×AE)->Prop
 | one {op e m}:zg X env nm e m->behindInMarks op e=false->SoundOps X env nm [op] [e] [(op,m)]
 | cons {op e m op2 ops es m2 ms}:zg X env nm e m->SoundOps X env nm (op2::ops) es (m2::ms)->SoundOps X env nm (op::op2::ops) (e::es) ((op,m)::m2::ms)
theorem wp_release{M:Model}{A:Around}{vs keep:List Value}{Q:Unit->Shared->Prop}{E:Value->Shared->Prop}{s:Shared}(h:Q () s):wpAny M A (release vs keep) Q E s:=λΓ p hΓ=>by rw[Sem.wp_release];exact h
theorem zgY{pos:Pos}{ops es ms}(h0:SoundOps X env nm ops es ms):∀{d A l O s Q Z av v},Live X d A->At X O s->FR X env nm l O s.heap->RepV O s.heap av v->Mine.Internal.A.w3 d l Q Z av ms (vis O)->
  wpAny X.M A (compareChain pos v ops (markedEach ops es (evalEach es env))) (liftQ X O s Q) (liftX X O s Z) s:=by
 induction h0 with
 | @one op e m h hm=>
  intro d A l O s Q Z av v L a F rv q;show wpAny X.M A (do let rv <-holding [v] (markedBehindIn op e (eval e env));standAt pos;operate [v,rv] (compareOp op v rv)) _ _ s;rw[markedBehindIn_of_false hm];refine G7 (Ha (kR (h d A l O s _ Z L a F q) λav2 v2 σ1 s1 rv2 a1 st1 q1=>?_));refine G7 (Hh ?_);refine jO st1 ?_;refine G7 (Ha (G9 (za4 L a1 (rv.mono (st1.keepV0 a)) rv2 q1) (λr s2 x=>?_) λ_ _ x=>x));refine kE x λt e7_1 σ2 a2 st2 q2=>?_;subst e7_1;exact G7 (wp_release (G8 (zn _ σ2 (.bool t) a2 st2 q2)))
 | @cons op e m op2 ops es m2 ms h hr ih=>
  intro d A l O s Q Z av v L a F rv q;refine G7 (Ha (kR (h d A l O s _ Z L a F q) λav2 v2 σ1 s1 rv2 a1 st1 q1=>?_));refine G7 (Hh ?_);refine jO st1 ?_;refine G7 (Ha (G9 (za4 L a1 (rv.mono (st1.keepV0 a)) rv2 q1) (λc s2 x=>?_) λ_ _ x=>x));refine kE x λt e8_1 σ2 a2 st2 q2=>?_;subst e8_1;refine G7 (wp_release ?_);refine G7 (Ha (wpAny_truthy_bool ?_));cases t with
  | false=>exact G8 (liftQ.back st2 (zbG a2 (.bool _) q2))
  | true=>exact jO st2 (ih L a2 ((F.step a st1).step a1 st2) (rv2.mono (st2.keepV0 a1)) q2)
theorem zmb{pos:Pos}{e:Expr}{m:AE}{ops es ms}(h:zg X env nm e m)(hr:SoundOps X env nm ops es ms):zg X env nm (.Compare e ops es pos) (A.cmp m ms):=λd A l O s Q Z L a F q=>by
 refine G7 (kR (h d A l O s _ Z L a F q) λav v σ1 s1 rv a1 st1 q1=>?_);exact jO st1 (zgY hr L a1 (F.step a st1) rv q1)
theorem zdc{pos:Pos}{ops es ms}(h0:SoundOps X env nm ops es ms):∀{d A l O s Q Z av v},Live X d A->At X O s->FR X env nm l O s.heap->RepV O s.heap av v->Mine.Internal.A.w3 d l (isB Q) Z av ms (vis O)->
  wpAny X.M A (testChain pos v ops (markedEach ops es (evalEach es env))) (liftB X O s Q) (liftX X O s Z) s:=by
 induction h0 with
 | @one op e m h hm=>
  intro d A l O s Q Z av v L a F rv q;show wpAny X.M A (do let rv <-holding [v] (markedBehindIn op e (eval e env));standAt pos;let c <-operate [v,rv] (compareOp op v rv);holding [c] (truthy c)) _ _ s;rw[markedBehindIn_of_false hm];refine G7 (Ha (kR (h d A l O s _ Z L a F q) λav2 v2 σ1 s1 rv2 a1 st1 q1=>?_));refine G7 (Hh ?_);refine ze3 st1 ?_;refine G7 (G7 (Ha (G9 (za4 L a1 (rv.mono (st1.keepV0 a)) rv2 q1) (λr s2 hpx=>?_) λ_ _ x=>x)));refine kE hpx λt e9_1 σ2 a2 st2 q2=>?_;subst e9_1;exact G7 (wp_release (G8 (Ha (wpAny_truthy_bool (zt σ2 a2 st2 q2)))))
 | @cons op e m op2 ops es m2 ms h hr ih=>
  intro d A l O s Q Z av v L a F rv q;refine G7 (Ha (kR (h d A l O s _ Z L a F q) λav2 v2 σ1 s1 rv2 a1 st1 q1=>?_));refine G7 (Hh ?_);refine ze3 st1 ?_;refine G7 (Ha (G9 (za4 L a1 (rv.mono (st1.keepV0 a)) rv2 q1) (λc s2 hpx=>?_) λ_ _ x=>x));refine kE hpx λt e10_1 σ2 a2 st2 q2=>?_;subst e10_1;refine G7 (wp_release ?_);refine G7 (Ha (wpAny_truthy_bool ?_));cases t with
  | false=>exact G8 (zt σ2 a2 st2 q2)
  | true=>exact ze3 st2 (ih L a2 ((F.step a st1).step a1 st2) (rv2.mono (st2.keepV0 a1)) q2)
theorem zjK{pos:Pos}{e:Expr}{m:AE}{ops es ms}(h:zg X env nm e m)(hr:SoundOps X env nm ops es ms):qz X env nm (.Compare e ops es pos) (A.cmp m ms):=λd A l O s Q Z L a F q=>by
 refine G7 (kR (h d A l O s _ Z L a F q) λav v σ1 s1 rv a1 st1 q1=>?_);exact ze3 st1 (zdc hr L a1 (F.step a st1) rv q1)
end
noncomputable def j8{J:Type}(xs:List J)(k:Int):Option J:=if 0<=k then xs[k.toNat]? else if -(xs.length:Int)<=k then xs[(k+xs.length).toNat]? else none
@[irreducible] noncomputable def zeS(p:Addr)(b:AV)(Q:zk)(O:AHeap):Prop:=(∃xs k v,O p=some (.list xs)/\b = .int k/\j8 xs k=some v/\Q v O)\/(∃kvs k v,O p=some (.tdict kvs)/\b=zx k/\Tab.at kvs k=some v/\Q v O)\/(∃fs n v,O p=some (.idict fs)/\b = .str n/\zbk fs n=some v/\Q v O)
def ztM(a b:AV)(Q:zk)(O:AHeap):Prop:=match a with
 | .tup xs=>zm b.int? λk=>zm (j8 xs k) λv=>Q v O
 | .lst xs=>zm b.int? λk=>zm (j8 xs k) λv=>Q v O
 | .ref p=>zeS p b Q O
 | _=>False
theorem jj{p:Addr}{xs:List AV}{k:Int}{Q:zk}{O:AHeap}(hp:O p=some (.list xs))(h:zm (j8 xs k) λv=>Q v O):zeS p (.int k) Q O:=by
 refine zb (zf h) λv e q=>?_;unfold zeS;exact .inl (j3 xs k v hp rfl e q)
theorem zbW{p:Addr}{kvs:Tab}{k:List zc}{v:AV}{Q:zk}{O:AHeap}(hp:O p=some (.tdict kvs))(e:Tab.at kvs k=some v)(q:Q v O):zeS p (zx k) Q O:=by
 unfold zeS;exact .inr (.inl (j3 kvs k v hp rfl e q))
theorem zpC{p:Addr}{fs:List (Nat×AV)}{n:Nat}{Q:zk}{O:AHeap}(hp:O p=some (.idict fs))(h:zm (zbk fs n) λv=>Q v O):zeS p (.str n) Q O:=by
 refine zb (zf h) λv e q=>?_;unfold zeS;exact .inr (.inr (j3 fs n v hp rfl e q))
noncomputable def cut(xs:List AV)(lo hi:Option Int):List AV:=(xs.drop (lo.elim 0 (clipAt xs.length))).take (hi.elim xs.length (clipAt xs.length)-lo.elim 0 (clipAt xs.length))
def zoJ(xs:List AV)(lo hi:Option Int)(Q:zk)(O:AHeap):Prop:=match hi with
 | none=>zm lo λk=>onB (decide (1<=k)&&Nat.ble k.toNat xs.length) (Q (.tup (xs.drop k.toNat)) O)
 | some _=>False
def zsH(r:Bool)(a:AV)(lo hi:Option Int)(Q:zk)(O:AHeap):Prop:=match a with
 | .tup xs=>zoJ xs lo hi Q O
 | x=>zm (zS O x) λxs=>mkL r (cut xs lo hi) Q O
section
variable{X:Cx}{A:Around}{O:AHeap}{s:Shared}{Q:zk}{E:Value->Shared->Prop}{d:Dp}
theorem ze2{h:Heap}{xs:List AV}{vs:List Value}{k:Int}{x:AV}(r:RepVs O h xs vs)(e:j8 xs k=some x):∃v,RepV O h x v/\((0<=k/\vs[k.toNat]? = some v)\/(k<0/\-(vs.length:Int)<=k/\vs[(k+vs.length).toNat]? = some v)):=by
 unfold j8 at e;split at e
 .refine zb (r.get e) λv h1 h2=>?_;exact zd v h2 (.inl ⟨by assumption,h1⟩)
 .split at e
  .refine zb (r.get e) λv h1 h2=>?_;rw[r.length] at h1
   rename_i h3 h4
   rw[r.length] at h4;exact zd v h2 (.inr (zp (y42 h3) h4 h1))
  .exact absurd (Eq.symm e) (fN _)
theorem zgA{xs:List AV}{k:Int}{y:AV}{u:Value}{tk:Tok}{x:AV}(hx:x = .tup xs\/IsL O x xs)(a:At X O s)(rx:RepV O s.heap x u)(hy:j8 xs k=some y)(q:Q y (vis O)) :
  wpAny X.M A (getItem u (.int k tk)) (liftQ X O s Q) E s/\∃T id,s.TypeIs u T/\typeLookup (.type T) "__getitem__" = pure (some (.builtin id)):=by
 rcases hx with rfl|hx
 .refine zh (RepV.wH rx) λt vs e4_2 hl ht rs=>?_;subst e4_2;refine zb (ze2 rs hy) λw rw_ hw=>?_;have hlen:=rs.length;refine zf6 ?_ ("tuple") _ ht.typeIs slot_tuple_getitem.lookup
  rcases hw with⟨h1,h2⟩|⟨h1,h2,h3⟩
  .have h4:k.toNat<vs.length:=(fX.mp h2).1;exact getItem_tuple ht (by lia) (by lia) (seqIndex_of h1 (by simp;exact y96 h4)) (by simpa using h2) (zbG a rw_ q)
  .exact getItem_tuple ht (by lia) (by lia) (seqIndex_neg h1 (by simpa using h2)) (by simpa using h3) (zbG a rw_ q)
 .refine zq (a.isList hx rx) λp vs e6_2 _ hl rs hm=>?_;subst e6_2;refine zb (ze2 rs hy) λw rw_ hw=>?_;have hlen:=rs.length;refine zf6 ?_ ("list") _ hl.typeIs slot_list_getitem.lookup
  rcases hw with⟨h1,h2⟩|⟨h1,h2,h3⟩
  .have h4:k.toNat<vs.length:=(fX.mp h2).1;exact wpAny_getItem_list hl h1 (by lia) (by simpa using h2) (zbG a rw_ q)
  .exact wpAny_getItem_list_neg hl h1 (by simpa using h2) (by lia) (by simpa using h3) (zbG a rw_ q)
theorem zeR{x i:AV}{u v:Value}{dp:Dp}(L:Live X dp A)(a:At X O s)(rx:RepV O s.heap x u)(ri:RepV O s.heap i v)(q:ztM x i Q (vis O)) :
  wpAny X.M A (getItem u v) (liftQ X O s Q) E s/\∃T id,s.TypeIs u T/\typeLookup (.type T) "__getitem__" = pure (some (.builtin id)):=by
 cases x with
 | tup xs=>
  refine zb (zf q) λk e q1=>?_;refine zb (zf q1) λy hy q2=>?_;have e:=jd e;subst e;obtain⟨_,rfl⟩:=RepV.wC ri;exact zgA (.inl rfl) a rx hy q2
 | lst xs=>
  refine zb (zf q) λk e q1=>?_;refine zb (zf q1) λy hy q2=>?_;have e:=jd e;subst e;obtain⟨_,rfl⟩:=RepV.wC ri;exact zgA (.inr .lst) a rx hy q2
 | ref p=>
  have qr:zeS p i Q (vis O):=q;clear q;unfold zeS at qr
  rcases qr with⟨xs,k,y,hp,rfl,hy,q⟩|⟨kvs,k,y,hp,rfl,hy,q⟩|⟨fs,n,y,hp,rfl,hy,q⟩
  .obtain⟨_,rfl⟩:=RepV.wC ri;exact zgA (.inr (.ref hp)) a rx hy q
  .obtain rfl:=RepV.wM rx;have hp':=(zB hp).1;refine zb (a.tab hp') λxs hD _=>?_;exact zf6 (zqB L a hp' ri hy q) ("dict") _ hD.typeIs slot_dict_getitem.lookup
  .obtain rfl:=RepV.wM rx;have hp':=(zB hp).1;refine zb (a.rep _ _ hp') λkvs hD _=>?_;exact⟨zsE a hp' ri hy q,"dict",_,hD.mapOf.typeIs,slot_dict_getitem.lookup⟩
 | _=>exact q.elim
theorem RepVs.cut{h:Heap}{xs:List AV}{vs:List Value}(r:RepVs O h xs vs)(lo hi:Option Int):RepVs O h (cut xs lo hi) (slicePick vs.toArray lo hi none).toList:=by
 rw[slicePick_plain];unfold Mine.Internal.cut;simp only[fZ,r.length];exact(r.drop _).take _
theorem zi2(xs:List AV)(lo hi:Option Int):(cut xs lo hi).length<=xs.length:=by
 unfold cut;rw[fAT,fBF];exact zB7
end
noncomputable def zb6(e:Expr):Bool:=!Nat.beq e.ctorIdx 26
theorem zck{e:Expr}(h:zb6 e=true)(o i:Value):subscripted e false o i=operate [o,i] (getItem o i):=by
 cases e<;>first|rfl|exact nob h
namespace A
def ztS(Q:zk)(a:AV):zk:=λb σ2=>ztM a b Q σ2
def zx6(i:AE)(d:Dp)(l:Loc)(Q:zk)(Z:XP):zk:=λa σ1=>i d l (ztS Q a) Z σ1
def idx(x i:AE):AE:=λd l Q Z O=>x d l (zx6 i d l Q Z) Z O
def opt(m:Option AE)(d:Dp)(l:Loc)(Q:Option Int->AHeap->Prop)(Z:XP)(O:AHeap):Prop:=match m with
 | none=>Q none O
 | some m=>m d l (λv σ1=>zm v.int? λi=>Q (some i) σ1) Z O
def wS(r:Bool)(x:AE)(lo hi:Option AE):AE:=λd l Q Z O=>x d l (λa σ1=>opt lo d l (λlo' σ2=>opt hi d l (λhi' σ3=>zsH r a lo' hi' Q σ3) Z σ2) Z σ1) Z O
end A
noncomputable def zfM(X:Cx)(env:Env)(nm:List (Str×Nat)):Option Expr->Option AE->Prop
 | none,none=>True
 | some e,some m=>zg X env nm e m
 | _,_=>False
section
variable{X:Cx}{env:Env}{nm:List (Str×Nat)}
theorem zmg{e i:Expr}{m mi:AE}{pos:Pos}(h:zg X env nm e m)(hi:zg X env nm i mi)(hn:zb6 i=true):zg X env nm (.Subscript e i pos) (A.idx m mi):=λd A l O s Q Z L a F q=>by
 refine Subscript_ (kR (h d A l O s _ Z L a F q) λav v σ1 s1 rv a1 st1 q1=>?_);refine G9 (hi d A l σ1 s1 _ Z L a1 (F.step a st1) q1) (λv2 s2 hpx=>?_) λ_ _ x=>x.back st1;refine zh hpx λav2 σ2 rv2 a2 st2 q2=>?_;refine zpm (zeR (A:=A) (E:=liftX X σ2 s2 Z) L a2 (rv.mono (st2.keepV0 a1)) rv2 q2) λh1 T id hT hl=>?_;exact jO (st1.trans st2) (tail_any hT hl h1 (zck hn _ _))
theorem zfs{e:Option Expr}{m:Option AE}(h:zfM X env nm e m){d A l O s Q Z}(L:Live X d A)(a:At X O s)(F:FR X env nm l O s.heap)(q:Mine.Internal.A.opt m d l Q Z (vis O)){R:Value->Shared->Prop}
  (k:∀v o s' O',IsPart v o->At X O' s'->Step E0 O s O' s'->Q o (vis O')->R v s'):wpAny X.M A (valueOrNone (evalOpt e env)) R (liftX X O s Z) s:=by
 cases e with
 | none=>
  cases m with
  | none=>exact G8 (k _ _ _ _ .none a (.refl ..) q)
  | some m=>exact h.elim
 | some e=>
  cases m with
  | none=>exact h.elim
  | some m=>
   refine G9 (h d A l O s _ Z L a F q) (λv s1 hpx=>?_) λ_ _ x=>x;refine zh hpx λav σ1 rv a1 st1 q1=>?_;refine zb (zf q1) λi hi q1=>?_;have hi:=jd hi;subst hi;obtain⟨_,rfl⟩:=RepV.wC rv;exact k _ _ _ _ (.int _ _) a1 st1 q1
theorem zif{r:Bool}{e:Expr}{lo hi:Option Expr}{m:AE}{mlo mhi:Option AE}{p pos:Pos}(h:zg X env nm e m)(hlo:zfM X env nm lo mlo)(hhi:zfM X env nm hi mhi) :
  zg X env nm (.Subscript e (.Slice lo hi none p) pos) (A.wS r m mlo mhi):=λd A l O s Q Z L a F q=>by
 refine Subscript_ (kR (h d A l O s _ Z L a F q) λav v σ1 s1 rv a1 st1 q1=>?_);have F1:=F.step a st1;refine G7 (G9 (zfs hlo L a1 F1 q1 (R:=λv2 s2=>∃o σ2,IsPart v2 o/\At X σ2 s2/\Step E0 σ1 s1 σ2 s2/\_) λv2 o s2 σ2 p2 a2 st2 q2=>(zn o σ2 p2 a2 st2 q2)) (λv2 s2 hpx=>?_) λ_ _ x=>x.back st1);refine zh hpx λo σ2 p2 a2 st2 q2=>?_;have F2:=F1.step a1 st2;refine G7 (Ha (G9 (zfs hhi L a2 F2 q2 (R:=λv3 s3=>∃o σ3,IsPart v3 o/\At X σ3 s3/\Step E0 σ2 s2 σ3 s3/\_) λv3 o s3 σ3 p3 a3 st3 q3=>(zn o σ3 p3 a3 st3 q3)) (λv3 s3 hpx=>?_) λ_ _ x=>x.back (st1.trans st2)));refine zh hpx λo3 σ3 p3 a3 st3 q3=>?_;refine G7 (Ha (G8 ?_));refine wpAny_newObj_type ?_;have rv3:=(rv.mono (st2.keepV0 a1)).mono (st3.keepV0 a2);have st13:=st1.trans (st2.trans st3);generalize hso:({ cls:=.type "slice",data:=.fields #[v2,v3,Value.none] }:Obj)=so;have st4:Step E0 σ3 s3 σ3 { s3 with heap:=s3.heap.push so }:=Step.push σ3 s3 so s3.toks;have a4:At X σ3 { s3 with heap:=s3.heap.push so }:=a3.push so s3.toks;have rv4:=rv3.mono (st4.keepV0 a3);have hsl:(s3.heap.push so).IsSliceOf s3.heap.objs.size v2 v3 .none:=by rw[<-hso];exact Heap.IsSliceOf.new ..
 refine jO (st13.trans st4) ?_;have hc:(∃xs,av = .tup xs/\zoJ xs o o3 Q (vis σ3))\/zm (zS (vis σ3) av) λxs=>mkL r (cut xs o o3) Q (vis σ3):=by
  cases av with
  | tup xs=>exact .inl (zd xs rfl q3)
  | _=>exact .inr q3
 clear q3
 rcases hc with⟨xs,rfl,q3⟩|q3
 .cases o3 with
  | some _=>exact q3.elim
  | none=>
   refine zb (zf q3) λk e24_1 q4=>?_;subst e24_1;obtain⟨hb,q5⟩:=qB q4;have hb:=gO.mp hb;have h2:=fAE hb.2;obtain⟨k,rfl⟩:∃n:Nat,k=n:=⟨k.toNat,by lia⟩
   refine zh (RepV.wH rv4) λt vs e26_2 hl ht rs=>?_;subst e26_2;cases p2;cases p3;have hlen:=rs.length;refine tail_any (ops:=[.ref s3.heap.objs.size,_]) ht.typeIs slot_tuple_getitem.lookup (getItem_tuple_from ht hsl (by lia) (by simp;exact zs8 h2 hlen) ?_ (by simp[Hb];exact zeZ hl hlen)) rfl;generalize hH:({ s3 with heap:=s3.heap.push so }:Shared)=s4 at a4 rs ht ⊢;have hh:s4.heap=s3.heap.push so:=by rw[<-hH]
   refine zn _ σ3 (.tup (by rw[fBF];exact zAc hl) (vs:=vs.drop k) (qc ({ cls:=.type "tuple",data:=.seq (vs.toArray.toList.drop k).toArray }) ?_ rfl 0 (by simp)) ((rs.drop k).mono (.push _))) (a4.push _ s4.toks) (Step.push σ3 s4 _ s4.toks) q5;exact Heap.get?_push_size _ rfl
 .refine zb (zf q3) λxs hx q4=>?_;refine zq (a4.isList (zK hx) rv4) λp vs e28_2 _ hl rs hm=>?_;subst e28_2;refine tail_any (ops:=[.ref s3.heap.objs.size,_]) hl.typeIs slot_list_getitem.lookup (wpAny_getItem_list_slice hl hsl p2 p3 .none (by simp) ?_ (by simp[<-rs.length,Hb];exact ziG hm)) rfl;generalize hH:({ s3 with heap:=s3.heap.push so }:Shared)=s4 at a4 rs hl ⊢;have:=made (t:=s4.toks) (n:=0) (Q:=Q) (r:=r) a4 (rs.cut o o3) (fE (zi2 ..) hm) q4;exact this
end
abbrev zbq:=Dp->Bool->List AV->zk->AHeap->Prop
def jt(X:Cx)(f:Value)(p:zbq):Prop:=
 ∀d A O s r as vs Q E,Live X d A->At X O s->RepVs O s.heap as vs->p d r as Q (vis O)->wpAny X.M A (PySem.call f vs) (liftQ X O s Q) E s
namespace A
def wY(d:Dp)(P:Prop):Prop:=match d.hd with
 | false=>P
 | true=>False
end A
theorem zak{d:Dp}{P:Prop}(h:A.wY d P):d.hd=false/\P:=by
 unfold A.wY at h;cases e:d.hd with
 | false=>rw[e] at h;exact⟨rfl,h⟩
 | true=>rw[e] at h;exact h.elim
namespace A
def ztU(p:zbq)(d:Dp)(r:Bool)(Q:zk):List AV->AHeap->Prop:=λas O'=>p d r as Q O'
def prim(p:zbq)(r:Bool)(args:List AE):AE:=λd l Q Z O=>zbn args d l (ztU p d r Q) Z O
end A
section
variable{X:Cx}{env:Env}{nm:List (Str×Nat)}
theorem zjU{r:Bool}{x:Str}{f:Value}{p:zbq}{es:List Expr}{ms:List AE}{gp pos:Pos}(XO:X.Ok)(EO:EnvOk env)(hx:env.kindOf x=some .globalImplicit)(hd:(x==("__debug__" : Str))=false)(hn:X.mg x=none)(hv:X.mb x=some f)
  (hf:(∃id,f = .builtin id)\/∃T,f = .type T)(hp:jt X f p)(h:SoundEs X env nm es ms):zg X env nm (.Call (.Name x gp) es [] pos) (A.prim p r ms):=λd A l O s Q Z L a F q=>by
 refine Call_ (z7 XO EO a hx hd hn hv ?_)
 rcases hf with⟨id,rfl⟩|⟨T,rfl⟩
 .refine Calls.callWith_builtin h.plain (jF h L a F q λvs s1 hpx=>?_);refine zh hpx λavs σ1 rv a1 st q1=>?_;exact jO st (hp d A σ1 s1 r avs vs Q _ L a1 rv q1)
 .refine PyProof.Rows.callWith_type h.plain (jF h L a F q λvs s1 hpx=>?_);refine zh hpx λavs σ1 rv a1 st q1=>?_;exact jO st (hp d A σ1 s1 r avs vs Q _ L a1 rv q1)
end
def zbi(as:List AV)(K:AV->Prop):Prop:=match as with
 | []=>False
 | x::r=>match r with
  | []=>K x
  | _::_=>False
theorem jT{as:List AV}{K:AV->Prop}(h:zbi as K):∃x,as=[x]/\K x:=by
 cases as with
 | nil=>exact h.elim
 | cons x r=>cases r with
  | nil=>exact zd x rfl h
  | cons _ _=>exact h.elim
noncomputable def zkP(O:AHeap)(x:AV):Option (List AV):=match x with
 | .tup xs=>some xs
 | x=>zS O x
theorem zoF{O:AHeap}{x:AV}{xs:List AV}(h:zkP (vis O) x=some xs):x = .tup xs\/IsL O x xs:=by
 cases x with
 | tup ys=>cases h;exact .inl rfl
 | _=>exact .inr (zK h)
def kN:zbq:=λ_ _ as Q O=>zbi as λx=>zm (zkP O x) λxs=>Q (.int xs.length) O
def qn:zbq:=λ_ _ as Q O=>match as with
 | []=>False
 | x::r=>zm x.int? λa=>match r with
  | []=>Q (.rng 0 a) O
  | _::_=>zbi r λy=>zm y.int? λb=>Q (.rng a b) O
noncomputable def zov(lo hi:Int):List AV:=zhq lo (hi-lo).toNat
def zok:zbq:=λ_ r as Q O=>zbi as λx=>zm (zkP O x) λxs=>mkL r xs Q O
section
variable{X:Cx}
theorem qD{O:AHeap}{h:Heap}{x:AV}{vs:List Value}(r:RepVs O h [x] vs):∃v,vs=[v]/\RepV O h x v:=by
 obtain⟨_,_,rfl,a,r⟩:=RepVs.wF r;obtain rfl:=RepVs.wG r;exact zd _ rfl a
theorem zor{O:AHeap}{h:Heap}{x y:AV}{vs:List Value}(r:RepVs O h [x,y] vs):∃v w,vs=[v,w]/\RepV O h x v/\RepV O h y w:=by
 cases r with
 | cons a r=>
  obtain⟨_,_,rfl,b,r⟩:=RepVs.wF r;obtain rfl:=RepVs.wG r;exact zI _ _ rfl a b
theorem At.isSeq{O:AHeap}{s:Shared}(a:At X O s){x:AV}{v:Value}{xs:List AV}(h:zkP (vis O) x=some xs)(r:RepV O s.heap x v) :
  ∃(b:Addr) (vs:List Value),v = .ref b/\(IsTup s.heap b vs.toArray\/s.heap.IsList b vs.toArray)/\RepVs O s.heap xs vs/\xs.length<=1000000:=by
 rcases zoF h with rfl|h
 .refine zh (RepV.wH r) λt vs e6_2 hl ht rs=>?_;subst e6_2;exact zn t vs rfl (.inl ht) rs hl
 .refine zq (a.isList h r) λb vs e _ h1 h2 h3=>?_;exact zn b vs e (.inr h1) h2 h3
theorem zmj:jt X (.builtin "len") kN:=λd A O s r as vs Q E L a rv q=>by
 refine zb (jT q) λx e8_1 q=>?_;subst e8_1;refine zb (zf q) λxs hx q=>?_;refine zb (qD rv) λv e10_1 rv1=>?_;subst e10_1;refine zh (a.isSeq hx rv1) λb vs e11_2 ht rs hl=>?_;subst e11_2;have hlen:=rs.length;have e:(vs.toArray.size:Int)=xs.length:=by simp[hlen]
 rcases ht with ht|ht
 .refine len_tuple ht (by simp;exact zs6 hl hlen) ?_;rw[e];exact zax a (.int _ _) q
 .refine Calls.call_len_list ht (by simp;exact zs6 hl hlen) ?_;rw[e];exact zax a (.int _ _) q
theorem zie:jt X (.type "range") qn:=λd A O s r as vs Q E L a rv q=>by
 cases as with
 | nil=>exact q.elim
 | cons x as=>
  refine zb (zf q) λi hi q1=>?_;have hi:=jd hi;cases as with
  | nil=>
   refine zb (qD rv) λv e13_1 rv1=>?_;subst e13_1;rw[hi] at rv1;obtain⟨_,rfl⟩:=RepV.wC rv1;exact call_range_1 (zn _ O (.rng (Heap.get?_push_size _ rfl)) (a.push _ _) (Step.push O s _ _) q1)
  | cons y as=>
   refine zb (jT q1) λy' e q2=>?_;cases e;refine zb (zf q2) λj hj q3=>?_;have hj:=jd hj;refine zl (zor rv) λv w e17_2 rv1 rw_=>?_;subst e17_2;rw[hi] at rv1;rw[hj] at rw_;obtain⟨_,rfl⟩:=RepV.wC rv1;obtain⟨_,rfl⟩:=RepV.wC rw_;exact call_range_2 (zn _ O (.rng (Heap.get?_push_size _ rfl)) (a.push _ _) (Step.push O s _ _) q3)
theorem At.grown{O:AHeap}{s:Shared}{h':Heap}(a:At X O s)(t:Nat)(hk:∀b o,s.heap.get? b=some o->h'.get? b=some o):At X O { s with heap:=h',toks:=t }:=
 ⟨λb o e=>hk b o (a.keep b o e),λb ao e=>(a.rep b ao e).mono (.ext hk) λo ho=>hk b o ho,a.own,a.gens,a.os,a.ffk hk⟩
theorem Step.grown{B:Addr->Prop}(O:AHeap){s:Shared}{h':Heap}(t:Nat)(hk:∀b o,s.heap.get? b=some o->h'.get? b=some o)(hsz:s.heap.objs.size<=h'.objs.size):Step B O s O { s with heap:=h',toks:=t }:=.same (λb o e _=>hk b o e) hsz
theorem zfb{O:AHeap}{s:Shared}(a:At X O s){b:Addr}(hb:s.heap.objs.size<=b):b∉X.fr:=λq=>by
 refine zdD (a.ff b q) λ_ o _ _ e _=>?_;exact absurd (Heap.lt_size e) (pE.mpr hb)
theorem kL{r:Bool}{O:AHeap}{s:Shared}{h':Heap}{t:Nat}{b:Addr}{xs:List AV}{vs:List Value}{n:Nat}{Q:zk}(a:At X O s)(hk:∀b o,s.heap.get? b=some o->h'.get? b=some o)(hb:s.heap.objs.size<=b)(hn:h'.get? b=some (zJ vs n))(rv:RepVs O h' xs vs)
  (hl:xs.length<=1000000)(hsz:s.heap.objs.size<=h'.objs.size)(q:mkL r xs Q (vis O)):liftQ X O s Q (.ref b) { s with heap:=h',toks:=t }:=by
 have h0:=a.none_of_size hb;have a1:=a.grown t hk;have st1:Step E0 O s O { s with heap:=h',toks:=t }:=.grown O t hk hsz;have hh0:X.h₀.get? b=none:=by
  cases h:X.h₀.get? b with
  | none=>rfl
  | some ob=>exact absurd (Heap.lt_size (a.keep _ _ h)) (pE.mpr hb)
 cases r with
 | true=>exact⟨.ref b,_,.ref _,a1.adopt (ao:=.list xs) h0 hh0 (zfb a hb) λkv=>(zI vs n hn (rv.mono kv) hl),st1.adopt h0 hb,by rw[jr rfl];exact q _ (qh h0)⟩
 | false=>exact zn (.lst xs) _ (.lst (AHeap.wA ..)) (a1.adopt (ao:=.frz xs) h0 hh0 (zfb a hb) λkv=>(zt vs (qc _ hn rfl n rfl) (rv.mono kv) hl)) (st1.adopt h0 hb) (by rw[zgH h0];exact q)
theorem zjR:jt X (.type "list") zok:=λd A O s r as vs Q E L a rv q=>by
 refine zb (jT q) λx e21_1 q=>?_;subst e21_1;refine zb (zf q) λxs hx q=>?_;refine zb (qD rv) λv e23_1 rv1=>?_;subst e23_1;refine zh (a.isSeq hx rv1) λb vs e24_2 ht rs hl=>?_;subst e24_2;have hlen:=rs.length
 rcases ht with⟨o,ho,hc,n,hd⟩|⟨o,ho,hc,n,hd⟩
 .refine zD (call_list_seq _ (.inr rfl) ho hc hd (λh' c' hk hn hsz=>?_) (by simp[Hb];exact zeZ hl hlen));exact kL (t:=s.toks) a hk (fO _) hn (rs.mono (.ext hk)) hl hsz q
 .refine zD (call_list_seq _ (.inl rfl) ho hc hd (λh' c' hk hn hsz=>?_) (by simp[Hb];exact zeZ hl hlen));exact kL (t:=s.toks) a hk (fO _) hn (rs.mono (.ext hk)) hl hsz q
end
inductive PyT where
 | tuple|str|int|bool|list|dict
noncomputable def PyT.name:PyT->String
 | .tuple=>"tuple" | .str=>"str" | .int=>"int" | .bool=>"bool" | .list=>"list" | .dict=>"dict"
noncomputable def zbI(K:String)(T:PyT):Bool:=match T with
 | .tuple=>K=="tuple" | .str=>K=="str" | .int=>K=="int"||K=="bool" | .bool=>K=="bool" | .list=>K=="list" | .dict=>K=="dict"
noncomputable def isO(T:PyT)(o:AO):Option Bool:=match o with
 | .list _=>some (zbI "list" T)
 | .tdict _=>some (zbI "dict" T)
 | .idict _=>some (zbI "dict" T)
 | _=>none
noncomputable def isA(T:PyT)(x:AV)(O:AHeap):Option Bool:=match x with
 | .none=>some (zbI "NoneType" T)
 | .bool _=>some (zbI "bool" T)
 | .int _=>some (zbI "int" T)
 | .str _=>some (zbI "str" T)
 | .tup _=>some (zbI "tuple" T)
 | .lst _=>some (zbI "list" T)
 | .ref p=>(O p).bind (isO T)
 | _=>none
theorem zaY(T:PyT):typeOf (.type T.name)=pure (.type "type"):=by cases T<;>(unfold PyT.name;kernel_rfl)
noncomputable def kT:List String:=["int","bool","str","tuple","list","dict","NoneType"]
theorem zui{K:String}(hK:K∈kT)(T:PyT):isSubtype (.type K) (.type T.name)=pure (zbI K T):=by
 unfold kT at hK;simp only[fM,gQ,or_false] at hK
 rcases hK with rfl|rfl|rfl|rfl|rfl|rfl|rfl<;>cases T<;>(rw[isSubtype_type];kernel_rfl)
theorem zyl{K:String}{T:PyT}(h:zbI K T=false):(Value.type K==Value.type T.name)=false:=by
 have:K≠T.name:=λe=>by subst e;cases T<;>cases h
 simpa using this
def zt2(T:PyT)(x:AV)(Q:zk)(O:AHeap):Prop:=zm (isA T x O) λb=>Q (.bool b) O
section
variable{X:Cx}{A:Around}{O:AHeap}{s:Shared}{Q:zk}{E:Value->Shared->Prop}
theorem zbx{T:PyT}{v:Value}{K:String}(hK:K∈kT)(a:At X O s)(hT:s.TypeIs v K)(q:Q (.bool (zbI K T)) (vis O))
  (no:(Value.type K==Value.type T.name)=false->isSubtype (.type K) (.type T.name)=pure false->liftQ X O s Q (.bool false) { s with toks:=s.toks+1 }->wpAny X.M A (PySem.call (.builtin "isinstance") [v,.type T.name]) (liftQ X O s Q) E s) :
  wpAny X.M A (PySem.call (.builtin "isinstance") [v,.type T.name]) (liftQ X O s Q) E s:=by
 have e:=zui hK T;cases hb:zbI K T with
 | true=>rw[hb] at e q;exact call_isinstance (isinstance_true (Tx:=K) (zaY T) e) ⟨hT,zbG a (.bool _) q⟩
 | false=>rw[hb] at e q;exact no (zyl hb) e (zax a (.bool _) q)
theorem zhv{T:PyT}{p:Addr}{vs:Array Value}(a:At X O s)(ht:s.heap.IsList p vs)(q:Q (.bool (zbI "list" T)) (vis O)):wpAny X.M A (PySem.call (.builtin "isinstance") [.ref p,.type T.name]) (liftQ X O s Q) E s:=
 zbx (by decide) a ht.typeIs q λh1 h2 fin=>call_isinstance (isinstance_false_list h1 (zaY T) h2) ⟨ht.typeIs,fin⟩
theorem zhu{T:PyT}{p:Addr}(a:At X O s)(ht:s.TypeIs (.ref p) "dict")(q:Q (.bool (zbI "dict" T)) (vis O)):wpAny X.M A (PySem.call (.builtin "isinstance") [.ref p,.type T.name]) (liftQ X O s Q) E s:=
 zbx (by decide) a ht q λh1 h2 fin=>call_isinstance (isinstance_false_dict h1 (zaY T) h2) ⟨ht,fin⟩
theorem zpK{T:PyT}{p:Addr}{o:AO}(a:At X O s)(ho:O p=some o)(q:zm (isO T o) λb=>Q (.bool b) (vis O)):wpAny X.M A (PySem.call (.builtin "isinstance") [.ref p,.type T.name]) (liftQ X O s Q) E s:=by
 cases o with
 | list xs=>refine zb (a.isList0 (.inl ho)) λvs ht _=>?_;exact zhv a ht q
 | tdict kvs=>refine zb (a.tab ho) λxs hD _=>?_;exact zhu a hD.typeIs q
 | idict fs=>refine zb (a.rep _ _ ho) λkvs hD _=>?_;exact zhu a hD.mapOf.typeIs q
 | _=>exact q.elim
theorem zlu{T:PyT}{x:AV}{v:Value}(a:At X O s)(rx:RepV O s.heap x v)(q:zt2 T x Q (vis O)):wpAny X.M A (PySem.call (.builtin "isinstance") [v,.type T.name]) (liftQ X O s Q) E s:=by
 cases rx with
 | none=>exact zbx (K:="NoneType") (by decide) a rfl q λh1 h2 fin=>call_isinstance (isinstance_false_none h1 (zaY T) h2) fin
 | bool c=>exact zbx (K:="bool") (by decide) a rfl q λh1 h2 fin=>call_isinstance (isinstance_false_bool h1 (zaY T) h2) fin
 | int c t=>exact zbx (K:="int") (by decide) a rfl q λh1 h2 fin=>call_isinstance (isinstance_false_int h1 (zaY T) h2) fin
 | str c t=>exact zbx (K:="str") (by decide) a rfl q λh1 h2 fin=>call_isinstance (isinstance_false_str h1 (zaY T) h2) fin
 | tup hl ht rs=>exact zbx (K:="tuple") (by decide) a ht.typeIs q λh1 h2 fin=>call_isinstance (isinstance_false_tuple h1 (zaY T) h2) ⟨ht.typeIs,fin⟩
 | lst hp=>refine zb (a.isList0 (.inr hp)) λvs ht _=>?_;exact zhv a ht q
 | ref p=>
  refine zb (zf q) λb hb q=>?_;refine zb (fAJ.mp hb) λo ho hb=>?_;exact zpK a (zB ho).1 (zi hb q)
 | rng _=>exact q.elim
 | exc _=>exact q.elim
end
namespace A
def zx7(T:PyT)(Q:zk):zk:=λa σ1=>zt2 T a Q σ1
def isa(T:PyT)(x:AE):AE:=λd l Q Z O=>x d l (zx7 T Q) Z O
end A
section
variable{X:Cx}{env:Env}{nm:List (Str×Nat)}
theorem zmi{T:PyT}{Tn:Str}{e:Expr}{m:AE}{gp tp pos:Pos}(XO:X.Ok)(EO:EnvOk env)(hx:env.kindOf "isinstance" = some .globalImplicit)(hn:X.mg "isinstance" = none)(hv:X.mb "isinstance" = some (.builtin "isinstance"))
  (hxT:env.kindOf Tn=some .globalImplicit)(hd:(Tn==("__debug__" : Str))=false)(hnT:X.mg Tn=none)(hvT:X.mb Tn=some (.type T.name))(hs:jg e=true)(h:zg X env nm e m) :
  zg X env nm (.Call (.Name "isinstance" gp) [e,.Name Tn tp] [] pos) (A.isa T m):=λd A l O s Q Z L a F q=>by
 refine Call_ (z7 XO EO a hx (by decide) hn hv ?_);refine Calls.callWith_builtin ?_ ?_
 .rw[zz hs];rfl
 rw[zz hs];refine Calls.evalArgs_plain ?_;show wpAny X.M A (spliced ((false,eval e env)::backTo pos (starEach [.Name Tn tp] env))) _ _ s;refine Calls.spliced_cons (kR (h d A l O s _ Z L a F q) λav v σ1 s1 rv a1 st1 q1=>?_);show wpAny X.M A (spliced ((false,eval (.Name Tn tp) env)::[])) _ _ s1;refine Calls.spliced_cons (z7 XO EO a1 hxT hd hnT hvT (Calls.spliced_nil ?_));exact jO st1 (zlu a1 rv q1)
end
section
variable{X:Cx}{env:Env}{nm:List (Str×Nat)}{B:Addr->Prop}
inductive Names(B:Addr->Prop)(env:Env)(nm:List (Str×Nat)):List Expr->List Nat->Prop
 | nil:Names B env nm [] []
 | cons {x pos es i is}:nm.lookup x=some i->Sto B env x->Names B env nm es is->Names B env nm (.Name x pos::es) (i::is)
theorem Names.length{es is}(h:Names B env nm es is):es.length=is.length:=by
 induction h with
 | nil=>rfl
 | cons _ _ r ih=>rw[fH,fH,ih]
theorem zas(x:Str)(pos:Pos)(es:List Expr):assignEach (.Name x pos::es) env=(false,assign (.Name x pos) env)::assignEach es env:=rfl
theorem zbK{es is}(h:Names B env nm es is):(assignEach es env).length=es.length/\(assignEach es env).findIdx? (·.1)=none:=by
 induction h with
 | nil=>exact⟨rfl,rfl⟩
 | @cons x pos es i is _ _ r ih=>
  rw[zas];refine⟨by rw[fH,fH,ih.1],?_⟩;rw[List.findIdx?_cons];simp[ih.2]
theorem zc9(EO:EnvOk env)(hB:∀b,B b->FB env b){es is}(N0:Names B env nm es is):∀{A:Around} {l:Loc} {O:AHeap} {s:Shared} {xs:List AV} {vs:List Value} {Q:Unit->Shared->Prop} {E:Value->Shared->Prop},At X O s->FR X env nm l O s.heap->RepVs O s.heap xs vs->
  (∀s',FR X env nm (zqu is xs l) O s'.heap->At X O s'->Step B O s O s'->Q () s')->wpAny X.M A (assignInOrder ((assignEach es env).map (·.2)) vs) Q E s:=by
 induction N0 with
 | nil=>
  intro A l O s xs vs Q E a F r h;have:assignInOrder ([]:List (Value->Sem Unit)) vs=pure ():=by cases vs<;>rfl
  show wpAny X.M A (assignInOrder [] vs) Q E s;exact G8 (h s (by cases xs<;>exact F) a (.refl ..))
 | @cons x pos es i is hx hk nr ih=>
  intro A l O s xs vs Q E a F r h;rw[zas];cases r with
  | nil=>exact G8 (h s F a (.refl ..))
  | @cons y ys v ws ry rs=>
   refine G7 (Ha (wpAny_assign_Name (zfJ EO F a hx hk ry λs1 F1 a1 st1=>?_)));have no:NoStay B s.heap:=λb o hb e=>F.noStay b o (hB b hb) e;refine ih a1 F1 (rs.mono (st1.keepV a no)) λs2 F2 a2 st2=>h s2 F2 a2 (st1.trans st2)
theorem zic{es:List Expr}{is:List Nat}{k:Nat}{pos:Pos}(EO:EnvOk env)(hB:∀b,B b->FB env b)(N:Names B env nm es is):zaB B X env nm (.Tuple es k pos) (.many is):=λd A l l' O s x v Q E L hd a F r hb h=>by
 cases x with
 | tup xs=>
  have hb:(if xs.length=is.length then some (zqu is xs l) else none)=some l':=hb
  by_cases hlen:xs.length=is.length
  .rw[if_pos hlen] at hb;obtain rfl:=Hx hb;refine zh (RepV.wH r) λt vs e0_2 hl ht rs=>?_;subst e0_2;have e:=zbK N;have hvl:=rs.length;refine G7 (Hh ?_);unfold unpack;have en:(assignEach es env).length=vs.toArray.size:=by rw[e.1,N.length,<-hlen,hvl];simp
   rw[e.2,en];refine G7 (Ha (zD (wpAny_unpackItems_tuple (L.handled hd) ht λh' he' hsz=>?_)));have hk:∀b o,s.heap.get? b=some o->h'.get? b=some o:=λb o eo=>he' b o (gS (Heap.lt_size eo)) eo;have a1:At X O { s with heap:=h' }:=a.grown s.toks hk;have st1:Step E0 O s O { s with heap:=h' }:=.grown O s.toks hk hsz;have rs1:=rs.mono (st1.keepV0 a);have:vs.toArray.toList=vs:=rfl;exact zc9 EO hB N a1 (F.step a st1) rs1 λs2 F2 a2 st2=>h s2 F2 a2 ((st1.weaken λb hb=>hb.elim).trans st2)
  .rw[if_neg hlen] at hb;exact absurd (Eq.symm hb) (fN _)
 | _=>cases hb
end
noncomputable def zh4(lo hi:Int):Bool:=Nat.blt lo.natAbs 1000000000000&&Nat.blt hi.natAbs 1000000000000
theorem nab{i:Int}{c:Nat}(h:i.natAbs<c) : -(c:Int)<i/\i<c:=
 ⟨Int.neg_lt_of_neg_lt (fBK (Int.natAbs_neg i▸Int.le_natAbs) (fAI.mpr h)),fBK Int.le_natAbs (fAI.mpr h)⟩
theorem zow{lo hi:Int}(h:zh4 lo hi=true) : -1000000000000<lo/\lo<1000000000000/\-1000000000000<hi/\hi<1000000000000:=
 qj (gO.mp h) λh1 h2=>⟨(nab (fAE h1)).1,(nab (fAE h1)).2,nab (fAE h2)⟩
def znI(v:AV)(O:AHeap)(K:(AHeap->Prop)->List AV->Prop):Prop:=match v with
 | .tup xs=>K (λ_=>True) xs
 | .rng lo hi=>onB (zh4 lo hi) (K (λ_=>True) (zov lo hi))
 | x=>zm (zS O x) λxs=>K (zd1 x xs) xs
structure IterAt(X:Cx)(A:Around)(target:Expr)(O:AHeap)(s:Shared)(K:(AHeap->Prop)->List AV->Prop)(it:Value)(s':Shared):Prop where
 ex:∃I xs W St,ItOk X A target it I xs W St/\St 0 O s'.heap/\(∀b,W b->O b=none/\X.h₀.get? b=none/\s.heap.objs.size<=b)/\I (vis O)/\K I xs
 at_:At X O s'
 step:Step E0 O s O s'
section
variable{X:Cx}{A:Around}{O:AHeap}{s:Shared}{E:Value->Shared->Prop}{d:Dp}{target:Expr}
theorem qf(a:At X O s){b:Nat}(hb:s.heap.objs.size<=b):O b=none/\X.h₀.get? b=none/\s.heap.objs.size<=b:=(zp (a.none_of_size hb) (by
 cases h:X.h₀.get? b with
 | none=>rfl
 | some ob=>exact absurd (Heap.lt_size (a.keep _ _ h)) (pE.mpr hb)) hb)
theorem zd2{v:AV}{u:Value}{xs:List AV}(a:At X O s)(hx:zS (vis O) v=some xs)(r:RepV O s.heap v u):∃(p:Addr) (vs:List Value),u = .ref p/\s.heap.IsList p vs.toArray/\RepVs O s.heap xs vs/\zd1 v xs (vis O)/\stL v p xs O:=by
 refine zq (a.isList (zK hx) r) λp vs e1_2 ho hl rs _=>?_;subst e1_2;refine ja p vs rfl hl rs ?_ ?_
 .cases zK hx with
  | ref h=>exact h
  | lst=>trivial
 .cases r with
  | ref a=>exact rfl
  | lst h=>cases zK hx;exact h
  | tup _ _ _=>cases hx
  | rng _=>cases hx
  | exc _=>cases hx
theorem zjh{v:AV}{u:Value}{K:(AHeap->Prop)->List AV->Prop}(hh:A.handled=none)(a:At X O s)(r:RepV O s.heap v u)(h:znI v (vis O) K):wpAny X.M A (pyIter u) (IterAt X A target O s K) E s:=by
 have lists:(zm (zS (vis O) v) λxs=>K (zd1 v xs) xs)->wpAny X.M A (pyIter u) (IterAt X A target O s K) E s:=λh=>by
  refine zb (zf h) λxs hx k=>?_;refine zq (zd2 a hx r) λp vs e3_2 hl rs k1 k2=>?_;subst e3_2;exact wpAny_pyIter_list hl ⟨(j4 _ xs _ _ (zlw hh s.heap.objs.size p v xs) ⟨(zt _ (Heap.get?_push_size _ rfl) rfl rfl),k2⟩ (λb hb=>by subst hb;exact qf a (fO _)) k1 k),a.push _ s.toks,Step.push O s _ s.toks⟩
 cases v with
 | tup xs=>
  refine zh (RepV.wH r) λt vs e4_2 hl ht rs=>?_;subst e4_2;exact wpAny_pyIter_tuple ht ⟨(j4 _ _ _ _ (zjf hh s.heap.objs.size t _) (kt (zt _ (Heap.get?_push_size _ rfl) rfl rfl) vs ((KeepV.push _).tup (O:=O) ht) (rs.mono (.push _))) (λb hb=>by subst hb;exact qf a (fO _)) trivial h),a.push _ s.toks,Step.push O s _ s.toks⟩
 | rng lo hi=>
  cases r with
  | @rng _ _ t x y z ho=>
   obtain⟨hb,k⟩:=qB h;refine zw (zow hb) λh1 h2 h3 h4=>?_;have hsz:Builtin.Range.rangeSize lo hi 1=(((hi-lo).toNat:Nat):Int):=by
    rw[rangeSize_one];split<;>(first|exact y57 (by assumption)|exact y61 (by assumption))
   have fl:∀z:Int,-1000000000000000<z->z<1000000000000000->Builtin.Range.rangeFitsLong z=true:=λz hz1 hz2=>by
    unfold Builtin.Range.rangeFitsLong;simp only[gX,decide_eq_true_eq];constructor<;>lia
   have hsmall:Builtin.Range.small lo hi 1=true:=by
    unfold Builtin.Range.small;rw[hsz,fl lo (by exact y12 h1) (y34 h2),fl hi (y12 h3) (y34 h4),fl 1 y0 y2,fl _ y65 (y47 h1 h4)];simp only[fB7,fDG];have:(1:Int)>0:=y3;simp only[this,if_true];rw[show hi+(1-1)=hi by exact y43,fl hi (by exact y12 h3) (by exact y34 h4)];simp
   refine wpAny_pyIter_range (t:=x) (u:=y) (v:=z) ho hsmall ?_;refine⟨(j4 _ (zov lo hi) _ _ (zje hh s.heap.objs.size lo (hi-lo).toNat) ?_ (λb hb=>by subst hb;exact qf a (fO _)) trivial k),a.push _ s.toks,Step.push O s _ s.toks⟩;show (s.heap.push _).get? s.heap.objs.size=some _;rw[Heap.get?_push_size _ rfl,hsz];simp[rawInt]
 | none=>exact lists h
 | bool _=>exact lists h
 | int _=>exact lists h
 | str _=>exact lists h
 | lst _=>exact lists h
 | ref _=>exact lists h
 | exc _=>exact lists h
end
noncomputable def zek(e:Expr):Bool:=!Nat.beq e.ctorIdx 7
theorem zaa{e:Expr}{env:Env}(h:zek e=true)(x:Value):foldedSetIterable e env x=pure x:=by
 cases e<;>first|rfl|exact nob h
abbrev AI:=Dp->Loc->(AHeap->(AHeap->Prop)->List AV->Prop)->XP->AHeap->Prop
namespace A
def kIt(K:AHeap->(AHeap->Prop)->List AV->Prop):zk:=λv σ1=>znI v σ1 (K σ1)
def zx8(K:AHeap->(AHeap->Prop)->List AV->Prop):zk:=λv σ1=>zm (zS σ1 v) λxs=>K σ1 (zd1 v xs) (zbP 0 xs)
def kFr(t:Tgt)(b:AS)(d:Dp)(l:Loc)(Q:zN)(σ1:AHeap)(I:AHeap->Prop)(xs:List AV):Prop:=zhd I t b d Q xs l σ1
def vF(r:Bool)(Q:zk):List AV->AHeap->Prop:=λacc O'=>mkL r acc Q O'
def kLc(r:Bool)(t:Tgt)(k:Nat)(c:Option AE)(e:AE)(d:Dp)(l:Loc)(Q:zk)(σ1:AHeap)(I:AHeap->Prop)(xs:List AV):Prop:=zaE I t c e d (vF r Q) xs [] (l++List.replicate k none) σ1
def itP(m:AE):AI:=λd l K Z O=>wY d (m d l (kIt K) Z O)
def itE(m:AE):AI:=λd l K Z O=>wY d (m d l (zx8 K) Z O)
def fr(m:AI)(t:Tgt)(b:AS):AS:=λd l Q Z O=>m d l (kFr t b d l Q) (kZ Z l) O
def lc(r:Bool)(m:AI)(t:Tgt)(k:Nat)(c:Option AE)(e:AE):AE:=λd l Q Z O=>m d l (kLc r t k c e d l Q) Z O
end A
section
variable{X:Cx}{env:Env}{nm:List (Str×Nat)}
def zcn(X:Cx)(env:Env)(nm:List (Str×Nat))(target iter:Expr)(m:AI):Prop:=
 ∀d A l O s K Z (R:Value->Shared->Prop) E,Live X d A->At X O s->FR X env nm l O s.heap->m d l K Z (vis O)->(∀e s',liftX X O s Z e s'->E e s')->(d.hd=false->
  ∀σ1 s1 it s2,At X σ1 s1->Step E0 O s σ1 s1->IterAt X A target σ1 s1 (K (vis σ1)) it s2->R it s2)->
  wpAny X.M A (eval iter env) (λx s1=>wpAny X.M A (pyIter x) R E s1) E s
theorem zgC{target iter:Expr}{m:AE}(h:zg X env nm iter m):zcn X env nm target iter (A.itP m):=λd A l O s K Z R E L a F q hE hR=>by
 obtain⟨hd,q⟩:=zak q;refine G9 (h d A l O s _ Z L a F q) (λx s1 hx=>?_) λe s' x=>hE e s' x;refine zh hx λav σ1 rv a1 st1 q1=>?_;exact G9 (zjh (target:=target) (L.handled hd) a1 rv q1) (λit s2 x=>hR hd σ1 s1 it s2 a1 st1 x) λ_ _ (e:False)=>e.elim
theorem zib{elts:List Expr}{x1:Nat}{tp gp pos:Pos}{e:Expr}{m:AE}(XO:X.Ok)(EO:EnvOk env)(hx:env.kindOf "enumerate" = some .globalImplicit)(hn:X.mg "enumerate" = none)(hv:X.mb "enumerate" = some (.type "enumerate"))(hs:jg e=true)(h:zg X env nm e m) :
  zcn X env nm (.Tuple elts x1 tp) (.Call (.Name "enumerate" gp) [e] [] pos) (A.itE m):=λd A l O s K Z R E L a F q hE hR=>by
 obtain⟨hd,q⟩:=zak q;refine Call_ (z7 XO EO a hx (by decide) hn hv ?_);refine PyProof.Rows.callWith_type ?_ ?_
 .rw[zz hs];rfl
 rw[zz hs];refine Calls.evalArgs_plain ?_;show wpAny X.M A (spliced ((false,eval e env)::[])) _ _ s;refine Calls.spliced_cons (G9 (h d A l O s _ Z L a F q) (λv s1 hpx=>Calls.spliced_nil ?_) λe s' x=>hE e s' x);refine zh hpx λav σ1 rv a1 st1 q1=>?_;refine zb (zf q1) λxs hx1 q2=>?_;refine zq (zd2 a1 hx1 rv) λp vs e12_2 hl rs k1 k2=>?_;subst e12_2;refine zD (call_enumerate_list hl λh' he hit hsz hk hsz'=>?_);have a2:At X σ1 { s1 with heap:=h' }:=a1.grown s1.toks hk;have st2:Step E0 σ1 s1 σ1 { s1 with heap:=h' }:=.grown σ1 s1.toks hk hsz';refine wpAny_pyIter_enum he ?_;refine hR hd σ1 s1 _ _ a1 st1 ⟨(j4 _ _ _ _ (zlv (L.handled hd) (s1.heap.objs.size+1) s1.heap.objs.size p (neA zzv) av xs) (zae hit k2 _ he) (λb hb=>?_) k1 q2),a2,st2⟩
 rcases hb with rfl|rfl
 .exact qf a1 (fA7 _)
 .exact qf a1 (fO _)
theorem zmf{target iter:Expr}{body:List Stmt}{pos:Pos}{t:Tgt}{b:AS}{m:AI}(hn:zek iter=true)(hi:zcn X env nm target iter m)(ht:zaB (FB env) X env nm target t)(hb:qp X env nm body b) :
  jw X env nm (.For target iter body [] pos) (A.fr m t b):=λd A l O s Q Z L a F q=>by
 refine wpAny_For (hi d A l O s _ _ _ _ L a F q (λe s' x=>x.toS a F) λhd σ1 s1 it s2 a1 st1 IA=>?_) (zaa hn);refine zW IA.ex λI xs W St IT hSt hW hI q1=>?_;have F2:=(F.step a st1).step a1 IA.step;refine znn (O:=σ1) (Q:=Q) L hd IT ht hb (λb hb=>⟨(hW b hb).1,(hW b hb).2.1⟩) IA.at_ F2 hI hSt q1 λf s' hpx=>?_;refine jX hpx λfl l' O' r a' F' st' q'=>?_;refine zE fl l' O' r a' F' ?_ q';have st12:Step (λb=>FB env b\/W b) σ1 s1 σ1 s2:=IA.step.weaken λb hb=>hb.elim;have:=(st12.trans st').drop (B:=FB env) λb hb=>hb.imp id λhb=>(hW b hb).2.2;exact(st1.weaken FB.wP).trans this
structure SoundLC(X:Cx)(env:Env)(nm:List (Str×Nat))(N:Nat)(elt target iter:Expr)(ifs:List Expr)(scope:Scope)(nm':List (Str×Nat))(k:Nat)(t:Tgt)(c:Option AE)(e:AE)(m:AI):Prop where
 ns:zek iter=true
 ck:CompOk env.scope.names nm N scope.names nm' k
 kind:scope.kind = .function
 iter:zcn X env nm target iter m
 tgt:∀C,zaB (λb=>b=C) X (compEnvC scope (clo env.cells scope.names []) C env) nm' target t
 test:∀C,zfL X (compEnvC scope (clo env.cells scope.names []) C env) nm' ifs c
 elt:∀C,zg X (compEnvC scope (clo env.cells scope.names []) C env) nm' elt e
theorem zcY{sc:List (Str×NameKind)}{N:Nat}{names:List (Str×NameKind)}{nm':List (Str×Nat)}{k:Nat}(CK:CompOk sc nm N names nm' k):∀x∈names,x.2 = .local->names.lookup x.1=some .local:=λx hx h=>by
 have:=jV CK.nodup (n:=x.1) (c:=x.2) hx;rw[h] at this;exact this
theorem zoU{r:Bool}{B:Addr->Prop}{O O':AHeap}{s s':Shared}{D:Addr}{acc:List AV}{ys:List Value}{n:Nat}{Q:zk}(hDo:s'.heap.get? D=some (zJ ys n))(rys:RepVs O' s'.heap acc ys)(hacc:acc.length<=1000000)(a:At X O' s')(st:Step B O s O' s')(hσ:O' D=none)(h0:X.h₀.get? D=none)(hfr:D∉X.fr)(hD:s.heap.objs.size<=D)(q:mkL r acc Q (vis O')) :
  ∃av ao,RepV (O'.set D ao) s'.heap av (.ref D)/\At X (O'.set D ao) s'/\Step B O s (O'.set D ao) s'/\Q av (vis (O'.set D ao)):=by
 cases r with
 | true=>exact⟨.ref D,.list acc,.ref D,a.adopt hσ h0 hfr λkv=>(zI ys n hDo (rys.mono kv) hacc),st.adopt hσ hD,by rw[jr rfl];exact q D (qh hσ)⟩
 | false=>exact zn (.lst acc) (.frz acc) (.lst (AHeap.wA ..)) (a.adopt hσ h0 hfr λkv=>(zt ys (qc _ hDo rfl n rfl) (rys.mono kv) hacc)) (st.adopt hσ hD) (by rw[zgH hσ];exact q)
theorem zeD{r:Bool}{elt target iter:Expr}{ifs:List Expr}{scope:Scope}{pos:Pos}{nm':List (Str×Nat)}{N k:Nat}{t:Tgt}{c:Option AE}{e:AE}{m:AI}
  (EO:EnvOk env)(hN:qV nm=N)(S:SoundLC X env nm N elt target iter ifs scope nm' k t c e m) :
  zg X env nm (.ListComp elt [⟨target,iter,ifs,0⟩] scope pos) (A.lc r m t k c e):=λd A l O s Q Z L a F q=>by
 refine wpAny_comprehension_free (use:=none) rfl (zaa S.ns) (zaD (S.ck.closure F)) S.kind (zcY S.ck) ?_;refine S.iter d A l O s _ Z _ _ L a F q (λe s' x=>x) λhd σ1 s1 it s2 a1 st1 IA=>?_;refine zW IA.ex λI xs W St IT hSt hW hI q1=>?_;have F2:=(F.step a st1).step a1 IA.step;refine ze6 (RR:=λacc C=>compPost X.M A (liftX X O s Z) none (liftQ X O s Q) acc C) EO L hd IA.at_ F2 (F.len.trans hN) S.ck S.kind IT hSt (λb hb=>⟨(hW b hb).1,(hW b hb).2.1⟩) hI S.tgt S.test S.elt q1 ?_;intro D C s' O' acc mC hfr hD hC hDC hσD hσC hns hDo a3 st3 q3;refine zd mC hns (λh' hs'=>?_);refine zl hDo λys n hDo rys hacc=>?_;have hC0:X.h₀.get? C=none:=(qf IA.at_ hC).2.1;have hD0:X.h₀.get? D=none:=(qf IA.at_ hD).2.1;have hCfr:C∉X.fr:=zfb IA.at_ hC;have kv:KeepV O' s'.heap O' h':=.mk' λb o e st=>(hs'.2 b (by rintro rfl;exact kM hns o e st)).trans e;have a4:At X O' { s' with heap:=h' }:=a3.aside (t:=s'.toks) (h':=h') hσC hC0 (kM hns) (λq=>absurd q hCfr) hs';have hDo':h'.get? D=some (zJ ys n):=(hs'.2 D hDC).trans hDo;have st4:Step (λb=>W b\/s1.heap.objs.size<=b) σ1 s1 O' { s' with heap:=h' }:=by
  have x1:Step (λb=>W b\/s1.heap.objs.size<=b) σ1 s1 σ1 s2:=IA.step.weaken λb hb=>hb.elim;have x2:Step (λb=>W b\/s1.heap.objs.size<=b) σ1 s2 O' s':=st3.weaken λb hb=>.inl hb;have x3:Step (λb=>W b\/s1.heap.objs.size<=b) O' s' O' { s' with heap:=h' }:=Step.aside (t:=s'.toks) (h':=h') (.inr (fE IA.step.size hC)) hs';exact x1.trans (x2.trans x3)
 have st5:Step E0 O s O' { s' with heap:=h' }:=st1.trans (st4.drop λb hb=>.inr (hb.elim (λhb=>(hW b hb).2.2) id));have hDs:s.heap.objs.size<=D:=fE st1.size (fE IA.step.size hD);refine zh (zoU hDo' (rys.mono kv) hacc a4 st5 hσD hD0 hfr hDs q3) λav ao h1 h2 h3 h4=>?_;exact zn av _ h1 h2 h3 h4
end
section
variable{X:Cx}{env:Env}{nm:List (Str×Nat)}
theorem FB.lt{l:Loc}{O:AHeap}{s:Shared}(F:FR X env nm l O s.heap){b:Nat}(h:FB env b):b<s.heap.objs.size:=by
 rcases h with h|⟨x,hx⟩
 .refine zb F.ns λm hn _=>?_;rw[h];exact hn.lt
 .refine ko (F.outc x b hx) λ_ _ v hc=>?_;exact hc.lt
theorem zeW{r:Bool}{elt target iter:Expr}{ifs:List Expr}{scope:Scope}{cpos py pos:Pos}{y:Str}{i:Nat}{nm':List (Str×Nat)}{N k:Nat}{t:Tgt}{c:Option AE}{e:AE}{m:AI}
  (EO:EnvOk env)(hN:qV nm=N)(S:SoundLC X env nm N elt target iter ifs scope nm' k t c e m)(hy:nm.lookup y=some i)(hky:env.kindOf y=some .local\/env.kindOf y=some .cell) :
  jw X env nm (.Assign [.Name y py] (.ListComp elt [⟨target,iter,ifs,0⟩] scope cpos) pos) (A.set i (A.lc r m t k c e)):=by
 have hsw:swapsWith (.ListComp elt [⟨target,iter,ifs,0⟩] scope cpos) (some (.Name y py)) pos.line env=pure (env.blockKind==.function&&env.kindOf y==some .local&&py.line==cpos.line&&!(scope.names.any λ(n,k)=>n==y&&(k==.local||k==.cell))):=rfl;cases hb:(env.blockKind==.function&&env.kindOf y==some .local&&py.line==cpos.line&&!(scope.names.any λ(n,k)=>n==y&&(k==.local||k==.cell))) with
 | false=>rw[hb] at hsw;exact zfB EO (zeD EO hN S) hy hky hsw
 | true=>
  rw[hb] at hsw;intro d A l O s Q Z L a F q;rw[exec_Assign_Name_used _ _ _ _ hsw];refine G7 (Hh (G7 ?_));refine G7 (G9 (wpAny_comprehension_free (use:=some (assign (.Name y py) env)) (Q:=λ_ s'=>liftS X env nm O s Q .next s') rfl (zaa S.ns) (zaD (S.ck.closure F)) S.kind (zcY S.ck) ?_) (λ_ s' hq=>G8 (G8 hq)) λ_ _ e=>e);refine S.iter d A l O s _ _ _ _ L a F q (λe s' x=>x.toS a F) λhd σ1 s1 it s2 a1 st1 IA=>?_;refine zW IA.ex λI xs W St IT hSt hW hI q1=>?_;have F1:=F.step a st1;have F2:=F1.step a1 IA.step;refine ze6 (RR:=λacc C=>compPost X.M A (liftSX X env nm O s Z) (some (assign (.Name y py) env)) (λ_ s'=>liftS X env nm O s Q .next s') acc C) EO L hd IA.at_ F2 (F.len.trans hN) S.ck S.kind IT hSt (λb hb=>⟨(hW b hb).1,(hW b hb).2.1⟩) hI S.tgt S.test S.elt q1 ?_;intro D C s' O' acc mC hfr hD hC hDC hσD hσC hns hDo a3 st3 q3;have hC0:X.h₀.get? C=none:=(qf IA.at_ hC).2.1;have hD0:X.h₀.get? D=none:=(qf IA.at_ hD).2.1;have hCfr:C∉X.fr:=zfb IA.at_ hC;refine zl hDo λys n hDo rys hacc=>?_;refine zh (zoU hDo rys hacc a3 st3 hσD hD0 hfr hD q3) λav ao r1 a3 st3 q3=>?_;have hCσ:(O'.set D ao) C=none:=by rw[AHeap.wB _ _ (Ne.symm hDC)];exact hσC
  generalize O'.set D ao=σ3 at r1 a3 st3 q3 hCσ;have noW:NoStay W s2.heap:=λb o hb e=>by refine zj (IT.there 0 _ _ b hSt hb) λo' e' h' _=>?_;rw[e] at e';obtain rfl:=Hx e';exact h'
  have dis:∀b,FB env b->¬W b:=λb hb hw=>absurd (FB.lt F1 hb) (pE.mpr (hW b hw).2.2);have F3:=F2.stepB IA.at_ st3 dis noW;refine wpAny_assign_Name (zeM EO F3 a3 hy hky r1 λs4 F4 a4 st4=>?_);have hCF:¬FB env C:=λhb=>absurd (FB.lt F2 hb) (pE.mpr hC);refine jh (id hns) λoC es ep hoC hdC hr=>?_;obtain⟨sl,hoC4⟩:=st4.keepD C oC hoC hCσ hCF;refine zd mC (qU _ es ep hoC4 hdC hr) (λh' hs'=>?_);have nC:∀o,s4.heap.get? C=some o->¬qu o:=λo ho=>by rw[hoC4] at ho;obtain rfl:=Hx ho;exact zaZ hdC
  have a5:At X σ3 { s4 with heap:=h' }:=a4.aside (t:=s4.toks) (h':=h') hCσ hC0 nC (λq=>absurd q hCfr) hs';have st5:Step (λb=>b=C) σ3 s4 σ3 { s4 with heap:=h' }:=Step.aside (t:=s4.toks) (h':=h') rfl hs';have F5:=F4.stepB a4 st5 (λb hb e=>hCF (e▸hb)) (λb o hb e=>by subst hb;exact nC o e);have stA:Step (λb=>FB env b\/s1.heap.objs.size<=b) σ1 s1 σ3 { s4 with heap:=h' }:=by
   have x1:Step (λb=>FB env b\/s1.heap.objs.size<=b) σ1 s1 σ1 s2:=IA.step.weaken λb hb=>hb.elim;have x2:Step (λb=>FB env b\/s1.heap.objs.size<=b) σ1 s2 σ3 s':=st3.weaken λb hb=>.inr (hW b hb).2.2;have x3:Step (λb=>FB env b\/s1.heap.objs.size<=b) σ3 s' σ3 s4:=st4.weaken λb hb=>.inl hb;have x4:Step (λb=>FB env b\/s1.heap.objs.size<=b) σ3 s4 σ3 { s4 with heap:=h' }:=st5.weaken λb hb=>.inr (by rw[hb];exact fE IA.step.size hC);exact x1.trans (x2.trans (x3.trans x4))
  exact zE .next _ _ trivial a5 F5 ((st1.weaken FB.wP).trans (stA.drop λb hb=>hb)) q3
end
section
open PySem.MeetsSeq
abbrev zcC:=List AV->List AV->(AV->List AV->Prop)->Prop
def za3(X:Cx)(id:String)(m:zcC):Prop:=
 ∀d A O s p xs as vs (Q:zk) E,Live X d A->At X O s->RepVs O s.heap as vs->O p=some (.list xs)->m xs as (λv ys=>Q v ((vis O).set p (.list ys)))->wpAny X.M A (PySem.call (.builtin id) (.ref p::vs)) (liftQ X O s Q) E s
def zoi(v:AV)(K:Addr->Prop):Prop:=match v with
 | .ref p=>K p
 | _=>False
theorem zhS{v:AV}{K:Addr->Prop}(h:zoi v K):∃p,v = .ref p/\K p:=by
 cases v with
 | ref p=>exact⟨p,rfl,h⟩
 | _=>exact h.elim
def zbD(O:AHeap)(p:Addr)(K:List AV->Prop):Prop:=zm ((O p).bind AO.w4) K
theorem zL{O:AHeap}{p:Addr}{xs:List AV}{K:List AV->Prop}(h:O p=some (.list xs))(q:K xs):zbD O p K:=by unfold zbD;rw[h];exact q
theorem zfr{O:AHeap}{p:Addr}{K:List AV->Prop}(h:zbD O p K):∃xs,O p=some (.list xs)/\K xs:=by
 refine zb (zf h) λxs h1 q=>?_;refine zb (fAJ.mp h1) λo h2 h3=>?_;cases o with
 | list ys=>cases h3;exact⟨_,h2,q⟩
 | _=>cases h3
namespace A
def w9(p:Addr)(Q:zk)(σ2:AHeap)(v:AV)(ys:List AV):Prop:=Q v (σ2.set p (.list ys))
def zsc(m:zcC)(p:Addr)(Q:zk):List AV->AHeap->Prop:=λas σ2=>zbD σ2 p λxs=>m xs as (w9 p Q σ2)
def ztT(m:zcC)(args:List AE)(d:Dp)(l:Loc)(Q:zk)(Z:XP):zk:=λr σ1=>zoi r λp=>zbD σ1 p λ_=>zbn args d l (zsc m p Q) Z σ1
def meth(m:zcC)(x:AE)(args:List AE):AE:=λd l Q Z O=>x d l (ztT m args d l Q Z) Z O
def kEx(l:Loc)(S:zN):zk:=λ_ O'=>S .next l O'
def ex(x:AE):AS:=λd l S SZ O=>x d l (kEx l S) (kZ SZ l) O
end A
section
variable{X:Cx}{env:Env}{nm:List (Str×Nat)}
theorem zjS{o:Expr}{name:Str}{id:String}{x:AE}{es:List Expr}{ms:List AE}{m:zcC}{apos pos:Pos}(slot:Slot "list" name id)(hty:typeOf (.builtin id)=pure (.type "method_descriptor"))(hm:za3 X id m)
  (hb:∀e,attributeBase o name e (eval o e)=eval o e)(hl:(apos.endLine==pos.line)=true)(hn:decide (es.length<30)=true)(hx:zg X env nm o x)(h:SoundEs X env nm es ms) :
  zg X env nm (.Call (.Attribute o name apos) es [] pos) (A.meth m x ms):=λd A l O s Q Z L a F q=>by
 refine wpAny_Call_method (hb env) ?_ hl PySem.F.plainAttrs_list slot hty ?_
 .have h1:(backTo pos (starEach es env)).all (λx=>!x.1)=true:=by
   rw[List.all_eq_not_any_not];simp only[Bool.not_not];rw[h.plain];rfl
  rw[h1];show (true&&true&&decide (es.length+0+0<30))=true
  simpa using hn
 refine G9 (hx d A l O s _ _ L a F q) (λv s1 hpx=>?_) λ_ _ x=>x;refine zh hpx λav σ1 r a1 st q1=>?_;refine zb (zhS q1) λp e3_1 q1=>?_;subst e3_1;refine zb (zfr q1) λxs hp q1=>?_;obtain rfl:=RepV.wM r;refine jq (a1.rep _ _ (zB hp).1) λvs n ho _=>?_;refine zp (zd _ ho rfl) (λb e=>by cases e;exact(zd _ ho rfl)) ?_;refine Calls.callWith_builtin h.plain (G9 (jF h L a1 (F.step a st) q1 λvs s2 hpx=>?_) (λ_ _ x=>x) λ_ _ x=>x.back st);refine zh hpx λavs σ2 r2 a2 st2 q2=>?_;refine zb (zfr q2) λys hp2 q3=>?_;exact jO (st.trans st2) (hm d A σ2 s2 p ys avs vs Q _ L a2 r2 (zB hp2).1 q3)
theorem zoL{e:Expr}{pos:Pos}{m:AE}(EO:EnvOk env)(h:zg X env nm e m)(hs:swapsWith e none pos.line env=pure false):jw X env nm (.Expr e pos) (A.ex m):=λd A l O s Q Z L a F q=>by
 rw[exec_Expr env e pos (by unfold interactive;rw[EO.kind];rfl) hs];refine G7 (Hh (G7 (G9 (h d A l O s _ _ L a F q) (λv s1 hpz=>zh hpz λav σ1 r a1 st q1=>wpAny_dropValue ?_) λ_ _ x=>x.toS a F)));exact zE .next l σ1 trivial a1 (F.step a st) (st.weaken FB.wP) q1
def jJ:zcC:=λxs as K=>zbi as λv=>zcz (xs.length+1) (K .none (xs++[v]))
def zsn:zcC:=λxs as K=>match as with
 | []=>zm xs.getLast? λv=>K v xs.dropLast
 | _::_=>zbi as λk=>zm k.int? λi=>onB (decide (0<=i)) (zm xs[i.toNat]? λv=>K v (xs.eraseIdx i.toNat))
theorem RepVs.eraseIdx{O:AHeap}{h:Heap}{xs:List AV}{vs:List Value}(r:RepVs O h xs vs):∀n,RepVs O h (xs.eraseIdx n) (vs.eraseIdx n):=by
 induction xs generalizing vs with
 | nil=>intro n;obtain rfl:=RepVs.wG r;exact .nil
 | cons x xs ih=>
  obtain⟨_,_,rfl,a,r⟩:=RepVs.wF r;intro n;cases n with
  | zero=>exact r
  | succ n=>exact .cons a (ih r n)
theorem zpI{h:Heap}{p:Addr}{us ws:List Value}{n:Nat}(ho:h.get? p=some (zJ us n))(f:Array Value->Array Value)(e:f us.toArray=ws.toArray):∃n',(h.update p (Obj.mapSeq f)).get? p=some (zJ ws n'):=by
 have:=IsL.update ho f;rw[e] at this;exact⟨_,this⟩
theorem zfV{O:AHeap}{s:Shared}{p:Addr}{xs ys:List AV}{us ws:List Value}{n:Nat}{Q:zk}{x:AV}{v:Value}(a:At X O s)(hp:O p=some (.list xs))(ho:s.heap.get? p=some (zJ us n))(f:Array Value->Array Value)(e:f us.toArray=ws.toArray)(rw_:RepVs O s.heap ys ws)(hl:ys.length<=1000000)(rx:RepV O s.heap x v)
  (q:Q x ((vis O).set p (.list ys))):liftQ X O s Q v { s with heap:=s.heap.update p (Obj.mapSeq f) }:=by
 have hs:Heap.SameBut p s.heap (s.heap.update p (Obj.mapSeq f)):=Heap.SameBut.update ..;obtain⟨n',hn'⟩:=zpI (ws:=ws) ho f e;have a':=a.store (ao:=.list ys) (t:=s.toks) hp rfl hs λkv=>(zI ws n' hn' (rw_.mono kv) hl)
 have st:Step E0 O s (O.set p (.list ys)) { s with heap:=s.heap.update p (Obj.mapSeq f) }:=Step.store (t:=s.toks) hp rfl hs;exact zn x _ (rx.mono (st.keepV0 a)) a' st (by rw[jr rfl];exact q)
theorem zgD:za3 X "list.append" jJ:=λd A O s p xs as vs Q E L a r hp q=>by
 refine zb (jT q) λv0 e10_1 q=>?_;subst e10_1;obtain⟨hl,q⟩:=qI q;refine zb (qD r) λv e12_1 rv=>?_;subst e12_1;refine zl (a.rep _ _ hp) λus n ho ru _=>?_;have hsz:us.toArray.size<=sizeLine:=by rw[fZ,<-ru.length,Hb];exact zyw hl
 refine call_meets PySem.F.slot_list_append (zd _ ho rfl) PySem.F.entry_list_append (PySem.F.args_list_append_2 _ _) (list_append p us.toArray n v hsz) ⟨ho,?_⟩;exact zfV (ws:=us++[v]) a hp ho _ (by simp) (ru.append (.cons rv .nil)) (by rw[fF];exact hl) .none q
theorem zfv{d:Dp}{A:Around}{O:AHeap}{s:Shared}{p:Addr}{xs:List AV}{us:List Value}{n k:Nat}{x:AV}{v:Value}{Q:zk}(a:At X O s)(hp:O p=some (.list xs))(ho:s.heap.get? p=some (zJ us n))(ru:RepVs O s.heap xs us)(hl:xs.length<=1000000)(hx:xs[k]? = some x)(rx:RepV O s.heap x v)(q:Q x ((vis O).set p (.list (xs.eraseIdx k)))) :
  liftQ X O s Q v { s with heap:=s.heap.update p (Obj.mapSeq λx=>x.eraseIdxIfInBounds k) }:=by
 have hk:k<us.length:=by rw[<-ru.length];exact(fX.mp hx).1
 exact zfV (ws:=us.eraseIdx k) a hp ho _ (by simp[Array.eraseIdxIfInBounds,hk]) (ru.eraseIdx k) (by have:=List.length_eraseIdx_le xs k;exact zAt hl this) rx q
theorem zmr:za3 X "list.pop" zsn:=λd A O s p xs as vs Q E L a r hp q=>by
 refine zl (a.rep _ _ hp) λus n ho ru hl=>?_;have hsz:us.toArray.size<=sizeLine:=by rw[fZ,<-ru.length,Hb];exact ziG hl
 cases as with
 | nil=>
  refine zb (zf q) λx hx q1=>?_;obtain rfl:=RepVs.wG r;have hx':xs[xs.length-1]? = some x:=by rw[<-List.getLast?_eq_getElem?];exact hx
  refine zb (ru.get hx') λy hy ry=>?_;have hy':us.toArray[us.toArray.size-1]? = some y:=by rw[fZ,<-ru.length];simpa using hy
  refine call_meets PySem.F.slot_list_pop (zd _ ho rfl) PySem.F.entry_list_pop (PySem.F.args_list_pop_1 _) (list_pop_last p us.toArray n y hy' hsz) ⟨ho,?_⟩;have e:us.toArray.size-1=xs.length-1:=by rw[fZ,ru.length]
  rw[e];refine zfv (d:=d) (A:=A) a hp ho ru hl hx' ry ?_;rw[List.eraseIdx_length_sub_one];exact q1
 | cons i0 as=>
  have q:zbi (i0::as) λk=>zm k.int? λi=>onB (decide (0<=i)) (zm xs[i.toNat]? λv=>Q v ((vis O).set p (.list (xs.eraseIdx i.toNat)))):=q;refine zb (jT q) λkv e q1=>?_;refine zb (zf q1) λi hi q2=>?_;obtain⟨h0,q3⟩:=qB q2;refine zb (zf q3) λx hx q4=>?_;have hi:=jd hi;rw[e,hi] at r;refine zb (qD r) λv e21_1 rv=>?_;subst e21_1;obtain⟨t,rfl⟩:∃t,v = .int i t:=by obtain⟨_,rfl⟩:=RepV.wC rv;exact⟨_,rfl⟩
  obtain⟨k,hki⟩:∃k:Nat,i.toNat=k:=⟨_,rfl⟩
  rw[hki] at hx q4;refine zb (ru.get hx) λy hy ry=>?_;have hk:k<us.length:=(fX.mp hy).1;have hkl:us.length<=1000000:=by rw[<-ru.length];exact hl
  have hik:i=k:=by lia
  have f1:Builtin.List.listFitsIndex i=true:=by
   unfold Builtin.List.listFitsIndex;rw[Hz (by lia),Hz (by lia)];rfl
  have f2:seqIndex? i us.toArray.size=some k:=by
   rw[hik];have e0:¬((k:Int)<0):=by exact zzu
   simp[seqIndex?,e0,hk]
  have f3:us.toArray[k]? = some y:=by simpa using hy
  have meets:=list_pop_at p us.toArray n i t k y f1 f2 f3 hsz;refine call_meets PySem.F.slot_list_pop (zd _ ho rfl) PySem.F.entry_list_pop (PySem.F.args_list_pop_2 _ _) meets ⟨ho,?_⟩;exact zfv (d:=d) (A:=A) a hp ho ru hl hx ry q4
end
end
@[irreducible] noncomputable def zp6(xs:List AV)(Q:zk)(O:AHeap):Prop:=∃ns:List Int,xs=ns.map .int/\ns≠[]/\∀M,M∈ns->(∀a∈ns,a<=M)->Q (.int M) O
@[irreducible] noncomputable def zp9(xs:List AV)(Q:zk)(O:AHeap):Prop:=∃ns:List Int,xs=ns.map .int/\ns≠[]/\∀M,M∈ns->(∀a∈ns,M<=a)->Q (.int M) O
@[irreducible] noncomputable def zqA(xs:List AV)(Q:zk)(O:AHeap):Prop:=∃ns:List Int,xs=ns.map .int/\PySem.SumFits ns/\Q (.int ns.sum) O
def zqi:zbq:=λd _ as Q O=>A.wY d (match as with
 | []=>False
 | x::r=>match r with
  | []=>zm (zS O x) λxs=>zp6 xs Q O
  | _::_=>zbi r λy=>ki x y λi j=>Q (.int (max i j)) O)
def zol:zbq:=λd _ as Q O=>A.wY d (match as with
 | []=>False
 | x::r=>match r with
  | []=>zm (zS O x) λxs=>zp9 xs Q O
  | _::_=>zbi r λy=>ki x y λi j=>Q (.int (min i j)) O)
def zqj:zbq:=λd _ as Q O=>A.wY d (zbi as λx=>zm (zS O x) λxs=>zqA xs Q O)
def zen:zbq:=λ_ _ as Q O=>zbi as λx=>zm (zS O x) λxs=>Q (.tup xs) O
section
variable{X:Cx}{O:AHeap}{s:Shared}
theorem zbF{h:Heap}{ns:List Int}{vs:List Value}(r:RepVs O h (ns.map .int) vs):∃xs:List (Int×Tok),vs.toArray=intItems xs.toArray/\xs.map (·.1)=ns:=by
 induction ns generalizing vs with
 | nil=>cases r;exact⟨[],by simp[intItems],rfl⟩
 | cons n ns ih=>
  cases r with
  | cons a r=>
   obtain⟨t,rfl⟩:=RepV.wC a;refine zb (ih r) λxs e1 e2=>?_;refine zd ((n,t)::xs) ?_ (by simp[e2]);simp[intItems] at e1 ⊢;exact e1
theorem zaK{h':Heap}{tk t:Nat}{i:Int}{Q:zk}(a:At X O s)(hk:∀b o,s.heap.get? b=some o->h'.get? b=some o)(hsz:s.heap.objs.size<=h'.objs.size)(q:Q (.int i) (vis O)):liftQ X O s Q (.int i t) { s with heap:=h',toks:=tk }:=(zn _ O (.int _ _) (a.grown tk hk) (.grown O tk hk hsz) q)
theorem zhr{x y:AV}{K:Int->Int->Prop}(h:ki x y K):∃i j,x = .int i/\y = .int j/\K i j:=by
 refine zb (zf h) λi h1 q=>?_;refine zb (zf q) λj h2 q=>?_;exact zI i j (jd h1) (jd h2) q
theorem ziw{h:Heap}{x y:AV}{vs:List Value}{i j:Int}(r:RepVs O h [x,y] vs)(h1:x = .int i)(h2:y = .int j):∃t u,vs=[.int i t,.int j u]:=by
 subst h1;subst h2;refine zl (zor r) λv w e4_2 rv rw_=>?_;subst e4_2;obtain⟨_,rfl⟩:=RepV.wC rv;obtain⟨_,rfl⟩:=RepV.wC rw_;exact jL _ _ rfl
theorem zmm:jt X (.builtin "max") zqi:=λd A O s r as vs Q E L a rv q=>by
 obtain⟨hd,q⟩:=zak q;cases as with
 | nil=>exact q.elim
 | cons x as=>
  cases as with
  | cons y as=>
   have q:zbi (y::as) λy=>ki x y λi j=>Q (.int (max i j)) (vis O):=q;refine zb (jT q) λz e q1=>?_;refine zl (zhr q1) λi j h1 h2 q2=>?_;rw[e] at rv;refine zY (ziw rv h1 h2) λt u e9_2=>?_;subst e9_2;refine zD (max_two_ints (L.handled hd) λh' tk hk hsz=>?_)
   by_cases h:j>i
   .rw[if_pos h];rw[fDJ (y59 h)] at q2;exact zaK a hk hsz q2
   .rw[if_neg h];rw[fDQ (y60 h)] at q2;exact zaK a hk hsz q2
  | nil=>
   refine zb (zf q) λys hx q1=>?_;refine zb (qD rv) λv e11_1 rv1=>?_;subst e11_1;refine zq (a.isList (zK hx) rv1) λp us e12_2 _ hl rs _=>?_;subst e12_2;unfold zp6 at q1;refine zj q1 λns e13_1 hne q2=>?_;subst e13_1;refine zb (zbF rs) λxs e1 e2=>?_;rw[e1] at hl;have hx:0<xs.length:=by rw[<-e2] at hne;cases xs<;>simp_all
   refine zD (max_intList (L.handled hd) hl (by simpa using hx) λv h' tk hv hk hsz=>?_);obtain⟨t,rfl⟩:=intItems_at hv;obtain⟨h1,h2⟩:=argBest_gt (numAt xs.toArray) (xs.toArray.size-1);have e3:(xs.toArray.toList.map (·.1))=ns:=e2;refine zaK a hk hsz (q2 _ ?_ λb hb=>?_)
   .rw[numAt_eq,e3];exact PySem.getD_mem (by rw[<-e3,fC,gB];simp at h1 ⊢;exact zwm hx h1)
   .rw[<-e3] at hb;refine zb (PySem.mem_getD hb) λj hj e17_2=>?_;subst e17_2;rw[fC,gB] at hj;rw[<-numAt_eq];exact h2 j (zqY hj)
theorem zmn:jt X (.builtin "min") zol:=λd A O s r as vs Q E L a rv q=>by
 obtain⟨hd,q⟩:=zak q;cases as with
 | nil=>exact q.elim
 | cons x as=>
  cases as with
  | cons y as=>
   have q:zbi (y::as) λy=>ki x y λi j=>Q (.int (min i j)) (vis O):=q;refine zb (jT q) λz e q1=>?_;refine zl (zhr q1) λi j h1 h2 q2=>?_;rw[e] at rv;refine zY (ziw rv h1 h2) λt u e20_2=>?_;subst e20_2;refine zD (min_two_ints (L.handled hd) λh' tk hk hsz=>?_)
   by_cases h:j<i
   .rw[if_pos h];rw[fCN (y55 h)] at q2;exact zaK a hk hsz q2
   .rw[if_neg h];rw[fCV (y62 h)] at q2;exact zaK a hk hsz q2
  | nil=>
   refine zb (zf q) λys hx q1=>?_;refine zb (qD rv) λv e22_1 rv1=>?_;subst e22_1;refine zq (a.isList (zK hx) rv1) λp us e23_2 _ hl rs _=>?_;subst e23_2;unfold zp9 at q1;refine zj q1 λns e24_1 hne q2=>?_;subst e24_1;refine zb (zbF rs) λxs e1 e2=>?_;rw[e1] at hl;have hx:0<xs.length:=by rw[<-e2] at hne;cases xs<;>simp_all
   refine zD (min_intList (L.handled hd) hl (by simpa using hx) λv h' tk hv hk hsz=>?_);obtain⟨t,rfl⟩:=intItems_at hv;obtain⟨h1,h2⟩:=argBest_lt (numAt xs.toArray) (xs.toArray.size-1);have e3:(xs.toArray.toList.map (·.1))=ns:=e2;refine zaK a hk hsz (q2 _ ?_ λb hb=>?_)
   .rw[numAt_eq,e3];exact PySem.getD_mem (by rw[<-e3,fC,gB];simp at h1 ⊢;exact zwm hx h1)
   .rw[<-e3] at hb;refine zb (PySem.mem_getD hb) λj hj e28_2=>?_;subst e28_2;rw[fC,gB] at hj;rw[<-numAt_eq];exact h2 j (zqY hj)
theorem zmu:jt X (.builtin "sum") zqj:=λd A O s r as vs Q E L a rv q=>by
 obtain⟨hd,q⟩:=zak q;refine zb (jT q) λx e29_1 q=>?_;subst e29_1;refine zb (zf q) λys hx q1=>?_;refine zb (qD rv) λv e31_1 rv1=>?_;subst e31_1;refine zq (a.isList (zK hx) rv1) λp us e32_2 _ hl rs _=>?_;subst e32_2;unfold zqA at q1;refine zj q1 λns e33_1 hf q2=>?_;subst e33_1;refine zb (zbF rs) λxs e1 e2=>?_;rw[e1] at hl;have e3:(xs.toArray.toList.map (·.1))=ns:=e2;have e4:ns.length=xs.toArray.size:=by rw[<-e3];simp
 refine zD (sum_intList (L.handled hd) hl (λj hj=>?_) λh' tk t' hk hsz=>?_)
 .rw[numAt_eq,preSum_eq,e3];exact hf j (by rw[e4];exact hj)
 .rw[preSum_eq,e3,fAL (by rw[e4];exact fO _)];exact zaK a hk hsz q2
theorem zig:jt X (.type "tuple") zen:=λd A O s r as vs Q E L a rv q=>by
 refine zb (jT q) λx e38_1 q=>?_;subst e38_1;refine zb (zf q) λys hx q1=>?_;refine zb (qD rv) λv e40_1 rv1=>?_;subst e40_1;refine zq (a.isList (zK hx) rv1) λp us e41_2 _ hl rs hm=>?_;subst e41_2;refine zD (call_tuple_list hl (λh' hk hsz=>?_) (by rw[fZ,<-rs.length,Hb];exact ziG hm));have hk':∀b o,s.heap.get? b=some o->(h'.push { cls:=.type "tuple",data:=.seq us.toArray }).get? b=some o:=λb o e=>Heap.get?_push_of_some _ (hk b o e);exact zn (.tup ys) O (.tup hm (qc _ (Heap.get?_push_size _ rfl) rfl 0 rfl) (rs.mono (.ext hk'))) (a.grown s.toks hk') (.grown O s.toks hk' hsz) q1
end
section
open PySem.MeetsSeq
section
variable{X:Cx}
end
end
structure Gd(X:Cx)(K:Frag):Prop where
 ok:X.Ok
 inn:K.In X.h₀
 bi:∀x:Str,x≠"__name__"->X.mb x=bootBuiltins x
structure EK(env:Env)(names:List (Str×NameKind)):Prop where
 eo:EnvOk env
 nm:env.scope.names=names
noncomputable def zdY(names:List (Str×NameKind))(x:Str):Bool:=names.lookup x==some .local||names.lookup x==some .cell
noncomputable def qA(names:List (Str×NameKind))(x:Str):Bool:=names.lookup x==some .globalImplicit&&!(x==("__debug__" : Str))
section
variable{X:Cx}{K:Frag}{env:Env}{nm:List (Str×Nat)}{names:List (Str×NameKind)}
theorem EK.var(E:EK env names){x:Str}(h:zdY names x=true):env.kindOf x=some .local\/env.kindOf x=some .cell:=by
 unfold Env.kindOf;rw[E.nm];unfold zdY at h
 simpa using h
theorem EK.glob(E:EK env names){x:Str}(h:qA names x=true):env.kindOf x=some .globalImplicit/\(x==("__debug__" : Str))=false:=by
 unfold Env.kindOf;rw[E.nm];unfold qA at h;simp only[gX,beq_iff_eq,fBQ] at h;exact h
def zlt(K:Frag)(x:Str)(v:Value):Prop:=nsIn K Hl x=some none/\bootBuiltins x=some v/\x≠"__name__"
theorem Gd.push(G:Gd X K)(L:Env):Gd (X.push L) K:=⟨⟨G.ok.g,G.ok.b,G.ok.nolimit⟩,G.inn,G.bi⟩
theorem Gd.none(G:Gd X K){x:Str}{v:Value}(h:zlt K x v):X.mg x=none:=mg_none_of G.inn G.ok.g h.1
theorem Gd.some(G:Gd X K){x:Str}{v:Value}(h:zlt K x v):X.mb x=some v:=(G.bi x h.2.2).trans h.2.1
noncomputable def zkM(names ns:List (Str×NameKind)):List (Str×NameKind):=ns.map λ(n,k)=>if (k==NameKind.free&&true&&names.lookup n==some NameKind.cell) then (n,NameKind.cell) else (n,k)
noncomputable def zX(nm:List (Str×Nat)):Nat->List (Str×NameKind)->List (Str×Nat)
 | _,[]=>[]
 | n,(x,.local)::r=>(x,n)::zX nm (n+1) r
 | n,(x,.free)::r=>(match nm.lookup x with|some i=>(x,i)::zX nm n r|none=>zX nm n r)
 | n,_::r=>zX nm n r
noncomputable def zcu(ns:List (Str×NameKind)):Nat:=(ns.filter λp=>p.2==.local).length
noncomputable def zcx:List Str->Bool
 | []=>true
 | x::r=>!r.contains x&&zcx r
theorem zb5{l:List Str}:zcx l=true->l.Nodup:=by
 induction l with
 | nil=>exact λ_=>.nil
 | cons x r ih=>
  intro h;have h:=(gX _ _).mp h;exact fT.mpr ⟨λq=>absurd h.1 (by rw[List.contains_iff_mem.mpr q];exact λe=>nomatch e),ih h.2⟩
noncomputable def zpF:List (Str×Nat)->Bool
 | []=>true
 | p::r=>r.all (λq=>!(q.2==p.2))&&zpF r
theorem zjc{l:List (Str×Nat)}:zpF l=true->∀x y i,(x,i)∈l->(y,i)∈l->x=y:=by
 induction l with
 | nil=>exact λ_ _ _ _ h=>nomatch h
 | cons p r ih=>
  intro h x y i h1 h2;have h:=(gX _ _).mp h;have h3:=fAA.mp h.1
  rcases fM.mp h1 with e1|h1<;>rcases fM.mp h2 with e2|h2
  .exact(Prod.mk.inj (e1.trans e2.symm)).1
  .exact absurd (h3 _ h2) (by rw[<-e1];simp)
  .exact absurd (h3 _ h1) (by rw[<-e2];simp)
  .exact ih h.2 x y i h1 h2
noncomputable def zkh(names:List (Str×NameKind))(nm:List (Str×Nat))(N:Nat)(ns:List (Str×NameKind)):Bool:=
 zcx (ns.map (·.1))&&ns.all (λp=>p.2==.local||p.2==.globalImplicit||(p.2==.free&&names.lookup p.1==some .cell&&(nm.lookup p.1).isSome))&&
 (zX nm N ns).all (λp=>(ns.lookup p.1==some .local&&N<=p.2&&p.2<N+zcu ns)||(ns.lookup p.1==some .free&&nm.lookup p.1==some p.2))&&zpF (zX nm N ns)&&qV (zX nm N ns++nm)==N+zcu ns&&
 ns.all (λp=>!(p.2==.free)||(zX nm N ns++nm).lookup p.1==nm.lookup p.1)&&qV (zX nm N ns)==N+zcu ns
theorem ze5{N:Nat}{ns:List (Str×NameKind)}(h:zkh names nm N ns=true):CompOk names nm N ns (zX nm N ns) (zcu ns):=by
 unfold zkh at h;simp only[gX,fAA,beq_iff_eq,fDR,decide_eq_true_eq,fBQ,beq_eq_false_iff_ne,ne_eq] at h;obtain⟨⟨⟨⟨⟨⟨h1,h2⟩,h3⟩,h4⟩,h5⟩,h6⟩,h7⟩:=h;have nd:=zb5 h1;have fr:∀(n:Nat) (l:List (Str×NameKind)) x i,(x,NameKind.free)∈l->nm.lookup x=some i->(x,i)∈zX nm n l:=by
  intro n l
  induction l generalizing n with
  | nil=>intro x i hx;cases hx
  | cons p r ih=>
   intro x i hx hi;obtain⟨y,k⟩:=p
   rcases fM.mp hx with e|hx'
   .cases e;unfold zX;rw[hi];exact fB
   .clear hx;cases k<;>unfold zX
    all_goals first
     | exact ih _ x i hx' hi
     | exact fA _ (ih _ x i hx' hi)
     | (split<;>first|exact fA _ (ih _ x i hx' hi)|exact ih _ x i hx' hi)
 have nd':∀(l:List (Str×NameKind)) (n:Nat),(l.map (·.1)).Nodup->((zX nm n l).map (·.1)).Nodup/\∀x,x∈(zX nm n l).map (·.1)->x∈l.map (·.1):=by
  intro l
  induction l with
  | nil=>intro n _;exact⟨.nil,λx hx=>by simp[zX] at hx⟩
  | cons p r ih=>
   intro n hn;obtain⟨y,k⟩:=p;have hn':=fT.mp hn;have stay:∀m,((zX nm m r).map (·.1)).Nodup/\∀x,x∈(zX nm m r).map (·.1)->x∈((y,k)::r).map (·.1):=λm=>⟨(ih m hn'.2).1,λx hx=>fA _ ((ih m hn'.2).2 x hx)⟩
   have more:∀m i,(((y,i)::zX nm m r).map (·.1)).Nodup/\∀x,x∈((y,i)::zX nm m r).map (·.1)->x∈((y,k)::r).map (·.1):=λm i=>
    ⟨fT.mpr ⟨λq=>hn'.1 ((ih m hn'.2).2 y q),(ih m hn'.2).1⟩,λx hx=>by
     rcases fM.mp hx with e|hx
     .rw[e];exact fB
     .exact fA _ ((ih m hn'.2).2 x hx)⟩
   cases k<;>unfold zX
   all_goals first
    | exact stay _
    | exact more _ _
    | (split<;>first|exact more _ _|exact stay _)
 refine⟨nd,λx kd hx=>?_,λx i hx=>?_,λx y i hx hy=>zjc h4 x y i (mem_of_lookup hx) (mem_of_lookup hy),h7⟩
 .rcases h2 (x,kd) hx with(q|q)|⟨⟨q1,q2⟩,q3⟩
  .exact .inl q
  .exact .inr (.inl q)
  .obtain⟨i,hi⟩:=fBC.mp q3;simp only at q1;subst q1;exact .inr (.inr (zpE rfl q2 i hi (jV (nd' _ _ nd).1 (fr _ _ _ _ hx hi))))
 .rcases h3 (x,i) (mem_of_lookup hx) with⟨⟨q1,q2⟩,q3⟩|⟨q1,q2⟩
  .exact .inl (zp q1 q2 q3)
  .exact .inr ⟨q1,q2⟩
theorem EK.comp(E:EK env names){N:Nat}{scope:Scope}(hc:zkh names nm N scope.names=true)(hk:scope.kind = .function)(C:Addr):EK (compEnvC scope (clo env.cells scope.names []) C env) (zkM names scope.names):=by
 have CK:CompOk env.scope.names nm N scope.names (zX nm N scope.names) (zcu scope.names):=by rw[E.nm];exact ze5 hc
 refine⟨zi5 E.eo CK hk C,?_⟩;show List.map _ scope.names=zkM names scope.names;unfold zkM;have:∀n,env.kindOf n=names.lookup n:=λn=>by unfold Env.kindOf;rw[E.nm]
 simp only[this,E.eo.kind]
 rfl
theorem EK.stoF(E:EK env names){x:Str}(h:zdY names x=true):Sto (FB env) env x:=zsJ (E.var h)
theorem EK.loc(E:EK env names){x:Str}(h:(names.lookup x==some .local)=true):env.kindOf x=some .local:=by
 unfold Env.kindOf;rw[E.nm];exact beq_iff_eq.mp h
noncomputable def zjv(names:List (Str×NameKind))(nm:List (Str×Nat))(ps:List Str):Bool:=
 zcx (names.map (·.1))&&nm.all (λp=>names.lookup p.1==some .local||names.lookup p.1==some .cell)&&zpF nm&&zcx (nm.map (·.1))&&(nm.take ps.length==ps.zipIdx)&&zcx ps
theorem zbZ{nm:List (Str×Nat)}{x:Str}{i:Nat}(h:(x,i)∈nm):i<qV nm:=by
 unfold qV;have gen:∀(l:List (Str×Nat)) (n:Nat),n<=l.foldl (λn p=>max n (p.2+1)) n/\∀x i,(x,i)∈l->i<l.foldl (λn p=>max n (p.2+1)) n:=by
  intro l
  induction l with
  | nil=>intro n;exact⟨fO _,λ_ _ h=>nomatch h⟩
  | cons p r ih=>
   intro n;rw[pM];have:=ih (max n (p.2+1));refine⟨fE (Nat.le_max_left _ _) this.1,λx i hx=>?_⟩
   rcases fM.mp hx with e|hx
   .rw[<-e] at this ⊢;exact gP (fCP i) (fE (Nat.le_max_right _ _) this.1)
   .exact this.2 x i hx
 exact(gen nm 0).2 x i h
theorem zjw{ps:List Str}(h:zjv names nm ps=true):NamesOk names nm ps (qV nm):=by
 unfold zjv at h;simp only[gX,fAA,beq_iff_eq,fDR] at h;obtain⟨⟨⟨⟨⟨h1,h2⟩,h3⟩,h4⟩,h5⟩,h6⟩:=h;have nd:=zb5 h4;have hz:∀(i:Nat) p,ps[i]? = some p->(p,i)∈nm:=λi p hp=>by
  have:(p,i)∈ps.zipIdx:=List.mk_mem_zipIdx_iff_getElem?.mpr hp;rw[<-h5] at this;exact fBW this
 refine⟨zb5 h1,λx i hx=>⟨zbZ (mem_of_lookup hx),h2 _ (mem_of_lookup hx)⟩,λx y i hx hy=>zjc h3 x y i (mem_of_lookup hx) (mem_of_lookup hy),λx i hx p hp=>zjc h3 p x i (hz i p hp) (mem_of_lookup hx),
  λi p hp=>jV nd (hz i p hp),?_,rfl,zb5 h6⟩
 rcases Nat.eq_zero_or_pos ps.length with e|e
 .rw[e];exact fV _
 .have:(ps[ps.length-1],ps.length-1)∈nm:=hz _ _ (fJ (by exact zyY e));have:=zbZ this;exact zzU this
theorem zeU{J:Type}{l:List J}{n:Nat}(h:l.length=n+1):∃a r,l=a::r/\r.length=n:=by
 cases l with
 | nil=>simp at h
 | cons a r=>exact zbw a r rfl (by simpa using h)
noncomputable def zf3(K:Frag)(f:Addr):Option FuncData:=(K.lookup f).bind λo=>match o.data with
 | .func fd=>some fd
 | _=>none
theorem zkm{f:Addr}{fd:FuncData}(h:zf3 K f=some fd):∃o,K.lookup f=some o/\o.data = .func fd:=by
 refine zb (fAJ.mp h) λo h1 h2=>?_;refine zd o h1 ?_;split at h2
 .rename_i e;obtain rfl:=Hx h2;exact e
 .exact absurd (Eq.symm h2) (fN _)
end
section
variable{X:Cx}{K:Frag}{O:AHeap}{s:Shared}{A:Around}{E:Value->Shared->Prop}{Q:zk}
theorem zhs(name:Str):(λe:DictEntry=>e.key.isStr name)=λe=>(strKind X.prog X.w).is name e.key:=by
 funext e
 cases e.key<;>rfl
theorem zgz{h:Heap}{d:Addr}{kvs:List (Str×Value)}(hD:h.DictOf (strKind X.prog X.w) d kvs):∃od es ep,h.get? d=some od/\od={ cls:=.type "dict",data:=.dict es ep }/\StrKeys es/\KeysOf (strKind X.prog X.w) es/\Pairs (strKind X.prog X.w) es.toList kvs/\∀name,lookIn name od=some (valueAt kvs name):=by
 refine jc hD λh0_0 es ep ho h0_4 hd hk hp nd=>?_;obtain⟨c,dd,da,sl⟩:=h0_0;obtain⟨h1,h2,h3⟩:=h0_4;simp only at h1 h2 h3 hd;subst h1 h2 h3 hd;have hs:StrKeys es:=λe he=>by
  refine zb (hk e he) λk h1 _=>?_;obtain⟨t,h2⟩:=Value.isStrOf_shape h1;exact jL k t h2
 refine zaP _ es ep ho rfl hs hk hp (λname=>?_);have hany:es.toList.any (·.refKey)=false:=by
  rw[List.any_eq_false];intro e he;refine zY (hs e (Array.mem_toList_iff.mp he)) λn t h=>?_;simp[DictEntry.refKey,h]
 have hf:=hp.find name;unfold lookIn;dsimp only;rw[zhs (X:=X)];cases h:es.toList.find? (λe=>(strKind X.prog X.w).is name e.key) with
 | some e=>rw[h] at hf;rw[<-hf];rfl
 | none=>rw[h] at hf;rw[<-hf,hany];rfl
theorem At.inst{x C dx:Addr}{fs:List (Nat×AV)}(a:At X O s)(hx:O x=some (.inst C dx))(hd:O dx=some (.idict fs)) :
  ∃od:Obj,InstAt s.heap x { cls:=.ref C,dict:=some dx,data:=.plain } C (some od)/\∀n,n<kU->∃r,lookIn (zu n) od=some r/\((zbk fs n=none/\r=none)\/∃av v,zbk fs n=some av/\r=some v/\RepV O s.heap av v):=by
 have h1:=a.rep _ _ hx;refine zy (a.rep _ _ hd) λkvs hD sx hl _=>?_;refine jc (zgz hD) λod es ep ho _ _ _ _ hlk=>?_;refine zd od ⟨h1,rfl,rfl,ho⟩ (λn hn=>(zd _ (hlk _) ?_))
 rcases sx.get hn with⟨h2,h3⟩|⟨v,y,h2,h3,r⟩
 .exact .inl ⟨h3,h2⟩
 .exact .inr (zI y v h3 h2 r)
theorem At.instNo{x C dx:Addr}{fs:List (Nat×AV)}{name:Str}(a:At X O s)(hx:O x=some (.inst C dx))(hd:O dx=some (.idict fs))(hn:name∉strT) :
  ∃od:Obj,InstAt s.heap x { cls:=.ref C,dict:=some dx,data:=.plain } C (some od)/\lookIn name od=some none:=by
 have h1:=a.rep _ _ hx;refine zy (a.rep _ _ hd) λkvs hD sx hl _=>?_;refine jc (zgz hD) λod es ep ho _ _ _ _ hlk=>?_;refine zd od ⟨h1,rfl,rfl,ho⟩ ?_;rw[hlk];have:∀{kvs fs},SX O s.heap kvs fs->valueAt kvs name=none:=by
  intro kvs fs sx
  induction sx with
  | nil=>rfl
  | @cons k x v kvs fs hk _ _ ih=>
   unfold valueAt at ih ⊢;have:¬zu k=name:=λe=>hn (e▸pT (zbe hk));rw[pX,Hy this];exact ih
 rw[this sx]
theorem zjD{h:Heap}{av:AV}{v:Value}(r:RepV O h av v):handedIn v=true:=by cases r<;>rfl
theorem zqQ{x C dx:Addr}{fs:List (Nat×AV)}{n:Nat}{av:AV}{expr:Bool}(KX:K.In X.h₀)(a:At X O s)(hx:O x=some (.inst C dx))(hd:O dx=some (.idict fs))(hn:n<kU)(hf:zbk fs n=some av)
  (hg:plainGet K C (zu n)=true)(hh:hasDictIn K C=true)(hc:findIn K (.ref C) (zu n)=some none)(q:Q av (vis O)):wpAny X.M A (getAttr (.ref x) (zu n) expr) (liftQ X O s Q) E s:=by
 refine zb (a.inst hx hd) λod I hl=>?_;refine zb (hl n hn) λr h1 h2=>?_
 rcases h2 with⟨h2,_⟩|⟨av',v,h2,rfl,rv⟩
 .rw[hf] at h2;exact absurd h2 (fN _)
 .rw[hf] at h2;obtain rfl:=Hx h2;exact get_value (KX.keeps a.keep) I (plainGet_of hg).1 (findObj_own hh hc rfl h1) (zjD rv) (zn av O rv ⟨a.keep,a.rep,a.own,a.gens,a.os,a.ff⟩ (Step.toks ..) q)
theorem zlZ{h:Heap}{dx:Addr}{es:Array DictEntry}{n:Nat}{kvs:List (Str×Value)}(ho:h.get? dx=some { cls:=.type "dict",data:=.dict es n })(hk:KeysOf (strKind X.prog X.w) es)(hp:Pairs (strKind X.prog X.w) es.toList kvs)(nd:(kvs.map (·.1)).Nodup)(name:Str)(tk:Tok)(v:Value) :
  ∃es' n',(h.update dx (Obj.putName name (hashStr X.w name) (.str name tk) v)).get? dx=some { cls:=.type "dict",data:=.dict es' n' }/\(h.update dx (Obj.putName name (hashStr X.w name) (.str name tk) v)).DictOf (strKind X.prog X.w) dx (stored kvs name v):=by
 have hkey:(strKind X.prog X.w).is name (.str name tk)=true:=strKind_is _ _ _ _;have hidx:es.findIdx? (·.key.isStr name)=es.toList.findIdx? λe=>(strKind X.prog X.w).is name e.key:=by
  rw[zhs (X:=X)];obtain⟨l⟩:=es;exact List.findIdx?_toArray _ _
 have hany:kvs.any (λkv=>decide (kv.1=name))=(es.findIdx? (·.key.isStr name)).isSome:=by
  rw[hidx,hp.findIdx name,List.findIdx?_isSome]
 cases hi:es.findIdx? (·.key.isStr name) with
 | some i=>
  rw[hi] at hany;have hg:=Heap.get?_update_self (Obj.putName name (hashStr X.w name) (.str name tk) v) ho (by simp only[Obj.putName_eq,Obj.putNameByArray,hi];rfl);have he:Obj.putName name (hashStr X.w name) (.str name tk) v { cls:=.type "dict",data:=.dict es n }={ cls:=.type "dict",data:=.dict (es.modify i λe=>{ e with val:=v }) n }:=by simp only[Obj.putName_eq,Obj.putNameByArray,hi]
  rw[he] at hg;have hs:stored kvs name v=kvs.map λkv=>if kv.1=name then (kv.1,v) else kv:=by unfold stored;rw[hany];rfl
  refine zaO _ _ hg _ _ _ hg (zp rfl rfl rfl) rfl (λe he=>?_) ?_ (by rw[hs,keys_map_store];exact nd)
  .obtain⟨j,hj,rfl⟩:=Array.mem_iff_getElem.mp he;rw[Array.getElem_modify];rw[Array.size_modify] at hj;have:=hk es[j] (Array.getElem_mem hj);split<;>exact this
  .rw[hs,Array.toList_modify];exact hp.modify nd (by rw[<-hidx];exact hi) v
 | none=>
  rw[hi] at hany;have hg:=Heap.get?_update_self (Obj.putName name (hashStr X.w name) (.str name tk) v) ho (by simp only[Obj.putName_eq,Obj.putNameByArray,hi];rfl);have he:Obj.putName name (hashStr X.w name) (.str name tk) v { cls:=.type "dict",data:=.dict es n }={ cls:=.type "dict",data:=.dict (es.push ⟨hashStr X.w name,.str name tk,v⟩) (n+1) }:=by simp only[Obj.putName_eq,Obj.putNameByArray,hi]
  rw[he] at hg;have hs:stored kvs name v=kvs++[(name,v)]:=by unfold stored;rw[hany];rfl
  have hno:name∉kvs.map (·.1):=not_mem_of_findIdx_none (by rw[<-hp.findIdx name,<-hidx];exact hi);refine zaO _ _ hg _ _ _ hg (zp rfl rfl rfl) rfl (λe he=>?_) ?_ ?_
  .rcases Array.mem_push.mp he with he|rfl
   .exact hk e he
   .exact zd name hkey rfl
  .rw[hs,gE];exact hp.append hkey _ v
  .rw[hs,fW,gT];refine zp nd (fT.mpr ⟨gQ,.nil⟩) (λa ha b hb e=>?_);simp at hb;subst e;subst hb;exact hno ha
theorem zj7{x C dx:Addr}{fs:List (Nat×AV)}{n:Nat}{av:AV}{v:Value}{R:AHeap->Prop}(KX:K.In X.h₀)(a:At X O s)(hx:O x=some (.inst C dx))(hd:O dx=some (.idict fs))(hn:n<kU)(rv:RepV O s.heap av v)(hz:fs.length<100)
  (hs:findIn K (.ref C) "__setattr__" = some (some (.builtin "object.__setattr__")))(hp:plainOver K C=true)(ht:takerIn K C (zu n)=some none)(hh:hasDictIn K C=true)(q:R (O.set dx (.idict (jx fs n av)))) :
  wpAny X.M A (setAttr (.ref x) (zu n) v) (λ_ s'=>∃O',At X O' s'/\Step E0 O s O' s'/\R O') E s:=by
 have KS:=KX.keeps a.keep;have I1:=a.rep _ _ hx;refine zy (a.rep _ _ hd) λkvs hD sx hl hsm=>?_;refine jc (zgz hD) λod es ep D e13_4 hsk hko hpr hlk=>?_;subst e13_4;have I:InstAt s.heap x { cls:=.ref C,dict:=some dx,data:=.plain } C (some { cls:=.type "dict",data:=.dict es ep }):=⟨I1,rfl,rfl,D⟩
 refine set_plain KS I hs ?_;refine osa_open (s:={ s with toks:=s.toks+1 }) KS I hp ht λb=>?_;refine zb (any_some hh) λcd hc hd'=>?_;refine G7 (G8 (G7 (G7 (wpAny_loadPart (s:={ s with toks:=s.toks+1 }) I1 (G7 (looks_clsIn KS hc _ _ _ _ (λ_ _ e=>e) ?_))))));rw[hd'];refine G8 (a:=some dx) (G7 (G8 (G7 ?_)));refine G7 (G7 (wpAny_askSetting (G8 (G7 (wpAny_mkText (G7 (wpAny_loadPart D ?_)))))));have c:(!es.any (·.key.isStr (zu n))&&es.any (·.refKey))=false:=by
  have:es.any (·.refKey)=false:=by
   rw[Array.any_eq_false'];intro e he;refine zY (hsk e he) λn t h=>?_;simp[DictEntry.refKey,h]
  rw[this,fDV]
 dsimp only;rw[aRefKeyMayBeTheName_at,c];refine jq (zlZ (X:=X) (h:=s.heap) D hko hpr (zdA hD) (zu n) (s.toks+1) v) λes1 n1 D1 hD1=>?_;refine wpAny_updatePart D ?_;have hl1:es1.size<=200:=by
  refine jc hD1 λ_ es2 _ h1 _ h2 _ h3 _=>?_;have e1:=h1.symm.trans D1;obtain rfl:=Hx e1;cases h2;rw[<-gB,h3.length];have:=stored_length_le kvs (zu n) v;have:=sx.length;exact zBA hz (by assumption) this
 refine G7 (wpAny_lookBehind D1 (by exact pastItsLine_dict (by rw[Hb];exact zy6 hl1)) ?_);refine G8 ?_;have sb:=Heap.SameBut.update s.heap dx (Obj.putName (zu n) (hashStr X.w (zu n)) (.str (zu n) (s.toks+1)) v);exact zt (O.set dx (.idict (jx fs n av))) (a.store _ hd rfl sb λkv=>zgy a hd hn rv hD sx hz kv hD1) (Step.store _ hd rfl sb) q
end
@[irreducible] noncomputable def zbC(O:AHeap)(C:Addr)(v:AV)(R:Addr->Addr->List (Nat×AV)->Prop):Prop:=∃p dx fs,v = .ref p/\O p=some (.inst C dx)/\O dx=some (.idict fs)/\R p dx fs
theorem zo{O:AHeap}{C p dx:Addr}{fs:List (Nat×AV)}{R:Addr->Addr->List (Nat×AV)->Prop}(h1:O p=some (.inst C dx))(h2:O dx=some (.idict fs))(q:R p dx fs):zbC O C (.ref p) R:=by
 unfold zbC;exact j3 p dx fs rfl h1 h2 q
section
variable{X:Cx}{K:Frag}{O:AHeap}{d:Dp}
def zmH(X:Cx)(C fI:Addr)(d:Dp)(args:List AV)(Q:zk)(Z:XP)(O:AHeap):Prop:=
 ∀dx x,O dx=none->O x=none->dx≠x->CallOk X fI ⟨d.n+1,d.hd⟩ (.ref x::args) (λv O'=>v = .none/\Q (.ref x) O') Z ((O.set dx (.idict [])).set x (.inst C dx))
theorem zgo{s:Shared}(XO:X.Ok)(a:At X O s):(s.heap.objs.size==sysModules)=false:=by
 have h3:(3:Nat)<s.heap.objs.size:=by
  refine jy XO.g λo es ep ho _=>?_;exact Heap.lt_size (a.keep _ _ ho)
 have h4:¬(s.heap.objs.size:Nat)=1:=λe=>by rw[e] at h3;exact absurd h3 (by decide)
 exact beq_false_of_ne h4
theorem zog{C fI:Addr}{args:List AV}{Q:zk}{Z:XP}{A:Around}{s:Shared}{vs:List Value}(XO:X.Ok)(KX:K.In X.h₀)(hm:makesIn K C=true)(hi:findIn K (.ref C) "__init__" = some (some (.ref fI)))(hf:typeIn K (.ref fI)=some (.type "function"))
  (L:Live X d A)(hd:d.n<590)(a:At X O s)(r:RepVs O s.heap args vs)(h:zmH X C fI d args Q Z (vis O)):Hj X.M A (.call (.ref C) ⟨vs,[]⟩) (zt8 X O s Q Z) s:=by
 have KS:=KX.keeps a.keep;have ns:=zgo XO a;obtain⟨hp,gn,dr,tk,os⟩:=s;refine make_core (makes_of KS hm) (looks_findIn KS hi) (λself=>bind_fn KS self hf) (.inl rfl) ?_;have n0:O hp.objs.size=none:=a.none_of_size (fO _);have n1:O (hp.objs.size+1)=none:=a.none_of_size (fA7 _);have a1:At X (O.set hp.objs.size (.idict [])) ⟨hp.push emptyDict,gn,dr,tk,os⟩:=a.alloc tk λkv=>(jU [] (Heap.DictOf.new hp) .nil (fV _) ns)
 have hsz:(hp.push emptyDict).objs.size=hp.objs.size+1:=size_push' ..;have a2:=a1.alloc (o:=instObj C hp.objs.size) (ao:=.inst C hp.objs.size) tk λ_=>Heap.get?_push_size _ rfl;have st1:Step E0 O ⟨hp,gn,dr,tk,os⟩ (O.set hp.objs.size (.idict [])) ⟨hp.push emptyDict,gn,dr,tk,os⟩:=Step.alloc a emptyDict _ tk;have st2:=st1.trans (Step.alloc (B:=E0) a1 (instObj C hp.objs.size) (.inst C hp.objs.size) tk);dsimp only at a2 st2;rw[hsz] at a2 st2;have L1:Live X ⟨d.n+1,d.hd⟩ (A.under (.builtin "type.__call__" ⟨.ref C::vs,[]⟩)):=⟨by rw[depth_under_make];have:=L.depth;show A.depth+1<=301+(d.n+1);exact zwv this,by
  show A.units+Code.cUnits (.builtin "type.__call__" ⟨.ref C::vs,[]⟩)<=20+8*(d.n+1);have h1:Code.cUnits (.builtin "type.__call__" ⟨.ref C::vs,[]⟩)<=8:=fAE (by kernel_rfl);have:=L.units;exact zBM h1 this,L.handled,by show d.n+1<=600;exact zyV hd,L.frames⟩
 have hh:=h hp.objs.size (hp.objs.size+1) (qh n0) (qh n1) (gS (fCP _));unfold CallOk at hh;refine Hg (hh _ _ (.ref (hp.objs.size+1)::vs) _ (by rw[jr rfl,jr rfl]) L1 a2 (.cons (.ref _) (r.mono (st2.keepV0 a)))) λres s' hr=>?_;cases res with
 | error e=>exact liftX.back st2 hr
 | ok fl=>
  cases fl with
  | next=>exact hr.elim
  | brk=>exact hr.elim
  | cont=>exact hr.elim
  | ret v=>
   refine zq hr λav O' rv a' st' e2_5 q=>?_;subst e2_5;obtain rfl:=RepV.wK rv;exact zcr rfl (.ref (hp.objs.size+1)) O' (.ref _) a' (st2.trans st') q
end
noncomputable def kb(x:Str):Option Nat:=strT.findIdx? λy=>x==y
theorem jm{x:Str}{n:Nat}(h:kb x=some n):n<kU/\zu n=x:=by
 obtain⟨h1,h2,_⟩:=fCG.mp h;refine⟨h1,?_⟩;unfold zu;rw[fQ,fJ h1];exact(beq_iff_eq.mp h2).symm
theorem zfX{x:Str}(h:kb x=none):x∉strT:=λq=>by
 have:=fC9.mp h x q;simp at this
noncomputable def zsr(fs:List (Nat×AV))(nc:Option Nat):Bool:=match nc with
 | some n=>(zbk fs n).isNone
 | none=>true
namespace A
def ztO(C:Addr)(n:Nat)(Q:zk):zk:=λv σ1=>zbC σ1 C v λ_ _ fs=>zm (zbk fs n) (kAt Q σ1)
def zya(X:Cx)(f:Addr)(d:Dp)(p:Addr)(Q:zk)(Z:XP):List AV->AHeap->Prop:=λas σ2=>CallOk X f d (.ref p::as) Q Z σ2
def kMc(X:Cx)(C:Addr)(nc:Option Nat)(f:Addr)(ms:List AE)(d:Dp)(l:Loc)(Q:zk)(Z:XP):zk:=λv σ1=>zbC σ1 C v λp _ fs=>onB (zsr fs nc) (zbn ms d l (zya X f d p Q Z) Z σ1)
def zye(C:Addr)(n:Nat)(l:Loc)(Q:zN)(av:AV):zk:=λv σ2=>zbC σ2 C v λ_ dx fs=>onB (Nat.blt fs.length 100) (Q .next l (σ2.set dx (.idict (jx fs n av))))
def kSa(C:Addr)(n:Nat)(x:AE)(d:Dp)(l:Loc)(Q:zN)(Z:SXP):zk:=λav σ1=>x d l (zye C n l Q av) (kZ Z l) σ1
def wR(C:Addr)(n:Nat)(x:AE):AE:=λd l Q Z O=>x d l (ztO C n Q) Z O
def wI(X:Cx)(C:Addr)(nc:Option Nat)(f:Addr)(x:AE)(ms:List AE):AE:=λd l Q Z O=>x d l (kMc X C nc f ms d l Q Z) Z O
def wT(C:Addr)(n:Nat)(x mv:AE):AS:=λd l Q Z O=>mv d l (kSa C n x d l Q Z) (kZ Z l) O
def new(X:Cx)(C fI:Addr)(ms:List AE):AE:=λd l Q Z O=>zbn ms d l (λas O'=>d.n<590/\zmH X C fI d as Q Z O') Z O
end A
section
variable{X:Cx}{K:Frag}{env:Env}{nm:List (Str×Nat)}{names:List (Str×NameKind)}
theorem zf9{C:Addr}{v:AV}{O:AHeap}{R:Addr->Addr->List (Nat×AV)->Prop}(h:zbC (vis O) C v R):∃p dx fs,v = .ref p/\O p=some (.inst C dx)/\O dx=some (.idict fs)/\R p dx fs:=by
 unfold zbC at h;obtain⟨p,dx,fs,e,h1,h2,q⟩:=h;exact j3 p dx fs e ((zB h1).1) ((zB h2).1) q
theorem zsM{C:Addr}{n:Nat}{name:Str}{o:Expr}{x:AE}{pos:Pos}(G:Gd X K)(hn:n<kU)(hs:zu n=name)(hg:plainGet K C name=true)(hh:hasDictIn K C=true)(hc:findIn K (.ref C) name=some none)(hb:∀e,attributeBase o name e (eval o e)=eval o e)(hx:zg X env nm o x) :
  zg X env nm (.Attribute o name pos) (A.wR C n x):=λd A l O s Q Z L a F q=>by
 rw[arm_eval_Attribute,hb];subst hs;refine G7 (kR (hx d A l O s _ Z L a F q) λav v σ1 s1 rv a1 st1 q1=>?_);obtain⟨p,dx,fs,rfl,hp,hd,q1⟩:=zf9 q1;obtain⟨av,hf,q1⟩:=zf q1;obtain rfl:=RepV.wM rv;refine G7 (Hh ?_);refine G7 (Ha (G9 (jO st1 (zqQ (Q:=Q) (E:=liftX X σ1 s1 Z) G.inn a1 hp hd hn hf hg hh hc q1)) (λr s2 h2=>?_) λ_ _ e=>e));exact G7 (wpAny_letTemporaryGo (G8 h2))
theorem zqJ{C f:Addr}{name:Str}{o:Expr}{es:List Expr}{ms:List AE}{x:AE}{apos pos:Pos}{ob:Obj}{fd:FuncData}(G:Gd X K)(hg:plainGet K C name=true)(hf:findIn K (.ref C) name=some (some (.ref f)))(ht:PySem.W.isFn K (.ref f)=true)(ho:K.lookup f=some ob)(hfd:ob.data = .func fd)
  (hb:∀e,attributeBase o name e (eval o e)=eval o e)(hl:(apos.endLine==pos.line)=true)(hn:decide (es.length<30)=true)(hx:zg X env nm o x)(h:SoundEs X env nm es ms) :
  zg X env nm (.Call (.Attribute o name apos) es [] pos) (A.wI X C (kb name) f x ms):=λd A l O s Q Z L a F q=>by
 rw[arm_eval_Call,hb];refine G7 (kR (hx d A l O s _ Z L a F q) λav v σ1 s1 rv a1 st1 q1=>?_);obtain⟨p,dx,fs,rfl,hp,hd,q1⟩:=zf9 q1;obtain⟨hno,q1⟩:=qB q1;obtain rfl:=RepV.wM rv;refine G7 (Hh ?_);have h1:(backTo pos (starEach es env)).all (λx=>!x.1)=true:=by
  rw[List.all_eq_not_any_not];simp only[Bool.not_not];rw[h.plain];rfl
 have hform:methodCallForm (es.length+([]:List Keyword).length) (backTo pos (starEach es env)) (backToKw pos (keywordEach [] env))=true:=by
  unfold methodCallForm;rw[h1];show (true&&true&&decide (es.length+0+0<30))=true
  simpa using hn
 have hpos:methodCallPos true o env apos pos=pure pos:=by unfold methodCallPos;simp[hl]
 obtain⟨od,I,k1⟩:∃od:Obj,InstAt s1.heap p { cls:=.ref C,dict:=some dx,data:=.plain } C (some od)/\lookIn name od=some none:=by
  cases hc:kb name with
  | none=>exact a1.instNo hp hd (zfX hc)
  | some n=>
   obtain⟨c1,rfl⟩:=jm hc;refine zb (a1.inst hp hd) λod I hlk=>?_;obtain⟨r,h2,h3⟩:=hlk n c1;rw[hc] at hno
   rcases h3 with⟨_,rfl⟩|⟨_,_,h3,_⟩
   .exact zd od I h2
   .have hno:(zbk fs n).isNone=true:=hno;rw[h3] at hno;cases hno
 unfold methodCall;rw[hform];refine G7 (Ha (method_fn (G.inn.keeps a1.keep) I (plainGet_of hg).1 (plainGet_of hg).2 hf (beq_iff_eq.mp ht) (by show (lookIn name od).map _=_;rw[k1];rfl) ?_));refine G7 (wpAny_of_eq hpos ?_);refine callWith_function_kw (o:=ob) (fd:=fd) (G9 (jF h L a1 (F.step a st1) q1 λvs s2 hv=>?_) (λ_ _ x=>x) λ_ _ x=>x.back st1);refine zh hv λavs σ2 r2 a2 st2 q2=>?_;refine⟨⟨a2.keep _ _ (G.inn _ _ ho),hfd⟩,?_⟩;exact jO (st1.trans st2) (q2.call L a2 (.cons (.ref p) r2))
theorem zqK{C:Addr}{n:Nat}{name:Str}{o value:Expr}{x mv:AE}{pos' pos:Pos}(G:Gd X K)(hn:n<kU)(hsn:zu n=name)(hs:findIn K (.ref C) "__setattr__" = some (some (.builtin "object.__setattr__")))(hp:plainOver K C=true)(ht:takerIn K C name=some none)(hh:hasDictIn K C=true)
  (hw:swapsWith value (some (.Attribute o name pos')) pos.line env=pure false)(hv:zg X env nm value mv)(hx:zg X env nm o x) :
  jw X env nm (.Assign [.Attribute o name pos'] value pos) (A.wT C n x mv):=λd A l O s Q Z L a F q=>by
 subst hsn;refine plainObj_wpAny_Assign_Attribute (G9 (hv d A l O s _ _ L a F q) (λv s1 x=>?_) λ_ _ x=>x.toS a F) hw;refine zh x λav σ1 rv a1 st1 q1=>?_;have F1:=F.step a st1;have st1':=st1.weaken (B':=FB env) FB.wP;refine G9 (hx d A l σ1 s1 _ _ L a1 F1 q1) (λu s2 x=>?_) λ_ _ x=>(x.toS a1 F1).back st1';refine zh x λbv σ2 ru a2 st2e q2=>?_;obtain⟨p,dx,fs,rfl,h1,h2,q2⟩:=zf9 q2;obtain⟨h3,q2⟩:=qB q2;obtain rfl:=RepV.wM ru;have F2:=F1.step a1 st2e;have st2':=st1'.trans (st2e.weaken (B':=FB env) FB.wP);refine G9 (zj7 (R:=λO'=>O'=σ2.set dx (.idict (jx fs n av))) G.inn a2 h1 h2 hn (rv.mono (st2e.keepV0 a1)) (fDZ.mp h3) hs hp ht hh rfl) (λ_ s3 x=>?_) λ_ _ e=>e;refine zj x λσ3 a3 st3 e17_3=>?_;subst e17_3;exact zE .next l _ trivial a3 (F2.step a2 st3) (st2'.trans (st3.weaken FB.wP)) (by rw[jr rfl];exact q2)
theorem zuo{g:Str}{C fI:Addr}{es:List Expr}{ms:List AE}{gp pos:Pos}(G:Gd X K)(E:EK env names)(hc:nsIn K Hl g=some (some (.ref C)))(hg:qA names g=true)(hkp:keepIn K (.ref C)=true)(hm:makesIn K C=true)
  (hi:findIn K (.ref C) "__init__" = some (some (.ref fI)))(hf:typeIn K (.ref fI)=some (.type "function"))(h:SoundEs X env nm es ms) :
  zg X env nm (.Call (.Name g gp) es [] pos) (A.new X C fI ms):=λd A l O s Q Z L a F q=>by
 refine Call_ (zbf G.ok E.eo a (E.glob hg).1 (E.glob hg).2 (mg_of G.inn G.ok.g hc) ?_);refine callWith_of (P:=λh=>K.In h) (by rw[h.plain];rfl) (λhp X'=>keeps_K hkp hp X') (jF h L a F q λvs s1 hv=>?_);refine zq hv λavs σ1 r a1 st hd q1=>?_;refine⟨G.inn.keeps a1.keep,?_⟩;exact jO st (wpAny_call (Hg (zog G.ok G.inn hm hi hf L hd a1 r q1) λres s' x=>x))
end
def A.wL:AS:=λ_ _ _ _ _=>False
theorem zid{X:Cx}{env:Env}{nm:List (Str×Nat)}{st:Stmt}:jw X env nm st A.wL:=λ_ _ _ _ _ _ _ _ _ _ q=>q.elim
@[irreducible] noncomputable def zjC(p:Addr)(k x:AV)(R:AHeap->Prop)(O:AHeap):Prop:=(∃kvs row,O p=some (.tdict kvs)/\k=zx row/\kvs.length<1000000/\R (O.set p (.tdict (Tab.put kvs row x))))\/
 (∃fs n,O p=some (.idict fs)/\k = .str n/\fs.length<100/\R (O.set p (.idict (jx fs n x))))\/
 (∃xs i,O p=some (.list xs)/\k = .int i/\0<=i/\i.toNat<xs.length/\R (O.set p (.list (xs.set i.toNat x))))
theorem zep{p:Addr}{kvs:Tab}{row:List zc}{x:AV}{R:AHeap->Prop}{O:AHeap}(h:O p=some (.tdict kvs))(hl:kvs.length<1000000)(q:R (O.set p (.tdict (Tab.put kvs row x)))):zjC p (zx row) x R O:=by
 unfold zjC;exact .inl (zn kvs row h rfl hl q)
theorem zlY{p:Addr}{xs:List AV}{i:Int}{x:AV}{R:AHeap->Prop}{O:AHeap}(h:O p=some (.list xs))(h0:0<=i)(hi:i.toNat<xs.length)(q:R (O.set p (.list (xs.set i.toNat x)))):zjC p (.int i) x R O:=by
 unfold zjC;exact .inr (.inr (ja xs i h rfl h0 hi q))
noncomputable def zj2(kvs:List (AV×AV))(fs:List (Nat×AV)):Option (List (Nat×AV)):=match kvs with
 | []=>some fs
 | p::r=>p.1.str?.bind λn=>zj2 r (jx fs n p.2)
def zjA(ps:List (AE×AE))(d:Dp)(l:Loc)(Q:List (AV×AV)->AHeap->Prop)(Z:XP)(O:AHeap):Prop:=match ps with
 | []=>Q [] O
 | p::r=>p.1 d l (λk σ1=>p.2 d l (λv σ2=>zjA r d l (λkvs σ3=>Q ((k,v)::kvs) σ3) Z σ2) Z σ1) Z O
namespace A
def kD4(l:Loc)(S:zN)(σ4:AHeap):Prop:=S .next l σ4
def kD3(a b:AV)(l:Loc)(S:zN):zk:=λc σ3=>zoi b λp=>zjC p c a (kD4 l S) σ3
def kD2(k:AE)(a:AV)(d:Dp)(l:Loc)(S:zN)(SZ:SXP):zk:=λb σ2=>k d l (kD3 a b l S) (kZ SZ l) σ2
def kD1(x k:AE)(d:Dp)(l:Loc)(S:zN)(SZ:SXP):zk:=λa σ1=>x d l (kD2 k a d l S SZ) (kZ SZ l) σ1
def w6(v x k:AE):AS:=λd l S SZ O=>v d l (kD1 x k d l S SZ) (kZ SZ l) O
def dic(ps:List (AE×AE)):AE:=λd l Q Z O=>∀r,O r=none->zjA ps d l (λkvs σ1=>σ1 r=some (.idict [])/\zm (zj2 kvs []) λfs=>Q (.ref r) (σ1.set r (.idict fs))) Z (O.set r (.idict []))
def dT0:AE:=λd l Q Z O=>∀r,O r=none->Q (.ref r) (O.set r (.tdict []))
def dT1(k v:AE):AE:=λd l Q Z O=>∀r,O r=none->k d l (λa σ1=>v d l (λb σ2=>∃row,a=zx row/\σ2 r=some (.tdict [])/\Q (.ref r) (σ2.set r (.tdict [(row,b)]))) Z σ1) Z (O.set r (.tdict []))
end A
section
variable{X:Cx}{env:Env}{nm:List (Str×Nat)}{O:AHeap}{s:Shared}{d:Dp}{A:Around}{E:Value->Shared->Prop}
theorem znT{p:Addr}{us:List Value}{n:Nat}{i:Int}{tk:Tok}{v:Value}{Q:Unit->Shared->Prop}(ho:s.heap.get? p=some (zJ us n))(h0:0<=i)(hi:i.toNat<us.length)(hl:us.length<=1000000)(q:Q () { s with heap:=s.heap.update p (Obj.mapSeq (·.setIfInBounds i.toNat v)) }):wpAny X.M A (setItem (.ref p) (.int i tk) v) Q E s:=by
 have hL:s.heap.IsList p us.toArray:=(qc _ ho rfl n rfl)
 obtain⟨y,hx⟩:∃y,us.toArray[i.toNat]? = some y:=⟨us[i.toNat],by simp[hi]⟩
 have hfit:i<2 ^ 63:=by lia
 unfold setItem
 try with_reducible refine Ha ?_
 first|refine G7 (G8 ?_)|skip
 refine G7 (wpAny_sequenceKey hL.typeIs (by decide) ?_);refine G7 (wpAny_callSpecial?_slot (name:=Str.ofString "__setitem__") hL.typeIs slot_list_setitem (He slot_list_setitem hL.typeIs entry_list_setitem ?_ (args_list_setitem _ _ _)));show wpAny _ _ (Builtin.List.listSubscript? (.int i tk) >>= _) _ _ s;refine G7 (wpAny_listSubscript_int (fitsIndex_of h0 hfit) ?_);clear hfit;obtain⟨j,rfl⟩:=pS h0;refine G7 (G7 (wpAny_seqItemAt ho rfl (G8 ?_)));rw[fA9] at hx q;rw[hx];refine G7 (wpAny_setSeqItemAt ho rfl ?_)
 first
  | exact G7 (G8 (G8 (zd .none rfl (G8 q))))
  | exact G8 ⟨.none,rfl,G8 q⟩
theorem RepVs.set{h:Heap}{xs:List AV}{vs:List Value}(r:RepVs O h xs vs){x:AV}{v:Value}(rx:RepV O h x v):∀n,RepVs O h (xs.set n x) (vs.set n v):=by
 induction xs generalizing vs with
 | nil=>intro n;obtain rfl:=RepVs.wG r;exact .nil
 | cons y xs ih=>
  obtain⟨_,_,rfl,a,r⟩:=RepVs.wF r;intro n;cases n with
  | zero=>exact .cons rx r
  | succ n=>exact .cons a (ih r n)
theorem zl0{p:Addr}{k x:AV}{u v:Value}{R:AHeap->Prop}(L:Live X d A)(a:At X O s)(rk:RepV O s.heap k u)(rv:RepV O s.heap x v)(q:zjC p k x R (vis O)):wpAny X.M A (setItem (.ref p) u v) (λ_ s'=>∃O',At X O' s'/\Step E0 O s O' s'/\R (vis O')) E s:=by
 unfold zjC at q
 rcases q with⟨kvs,row,hp,rfl,hl,q⟩|⟨fs,n,hp,rfl,hl,q⟩|⟨xs,i,hp,rfl,h0,hi,q⟩
 .exact zqD L a (zB hp).1 rk rv hl λs' a' st=>(zt _ a' st (by rw[jr rfl];exact q))
 .exact zsG a (zB hp).1 rk rv hl λs' a' st=>(zt _ a' st (by rw[jr rfl];exact q))
 .have hp:=(zB hp).1;refine zl (a.rep _ _ hp) λus n ho ru hl=>?_;obtain⟨tk,rfl⟩:=RepV.wC rk;have hlen:=ru.length;refine znT ho h0 (zyv hi hlen) (zwD hl hlen) ?_;refine zh (zfV (Q:=λ_ O'=>R O') (ys:=xs.set i.toNat x) (ws:=us.set i.toNat v) (x:=.none) (v:=.none) a hp ho (·.setIfInBounds i.toNat v) (by simp) (ru.set rv _) (by rw[List.length_set];exact hl) .none q) λav O' r' a' st' q'=>?_;exact zt O' a' st' q'
end
section
variable{X:Cx}{env:Env}{nm:List (Str×Nat)}{O:AHeap}{s:Shared}
theorem zjQ{o i value:Expr}{pos' pos:Pos}{mv mx mk:AE}(hv:zg X env nm value mv)(hx:zg X env nm o mx)(hk:zg X env nm i mk)(hs:swapsWith value (some (.Subscript o i pos')) pos.line env=pure false) :
  jw X env nm (.Assign [.Subscript o i pos'] value pos) (A.w6 mv mx mk):=λd A l O s Q Z L a F q=>by
 refine wpAny_Assign_Subscript (G9 (hv d A l O s _ _ L a F q) (λv s1 x=>?_) λ_ _ x=>x.toS a F) hs;refine zh x λav σ1 rv a1 st1 q1=>?_;have F1:=F.step a st1;have st1':=st1.weaken (B':=FB env) FB.wP;refine G9 (hx d A l σ1 s1 _ _ L a1 F1 q1) (λu s2 x=>?_) λ_ _ x=>(x.toS a1 F1).back st1';refine zh x λbv σ2 ru a2 st2e q2=>?_;have F2:=F1.step a1 st2e;have st2':=st1'.trans (st2e.weaken (B':=FB env) FB.wP);refine G9 (hk d A l σ2 s2 _ _ L a2 F2 q2) (λw s3 x=>?_) λ_ _ x=>(x.toS a2 F2).back st2';refine zh x λcv σ3 rw_ a3 st3e q3=>?_;have F3:=F2.step a2 st3e;have st3':=st2'.trans (st3e.weaken (B':=FB env) FB.wP);have rv3:=(rv.mono (st2e.keepV0 a1)).mono (st3e.keepV0 a2);have ru3:=ru.mono (st3e.keepV0 a2);refine zb (zhS q3) λp e8_1 q3=>?_;subst e8_1;obtain rfl:=RepV.wM ru3;refine G9 (zl0 L a3 rw_ rv3 q3) (λ_ s4 x=>?_) λ_ _ e=>e;refine zj x λσ4 a4 st4 q4=>?_;exact zE .next l _ trivial a4 (F3.step a3 st4) (st3'.trans (st4.weaken FB.wP)) q4
theorem zof(XO:X.Ok)(a:At X O s):At X (O.set s.heap.objs.size (.tdict [])) { s with heap:=s.heap.push { cls:=.type "dict",data:=.dict #[] } }/\Step E0 O s (O.set s.heap.objs.size (.tdict [])) { s with heap:=s.heap.push { cls:=.type "dict",data:=.dict #[] } }:=
 ⟨a.alloc s.toks λ_=>(ja (#[]) 0 (Heap.get?_push_size _ rfl) .nil .nil (by simp) (zgo XO a)),Step.alloc a _ _ s.toks⟩
theorem zt0(XO:X.Ok)(a:At X O s):At X (O.set s.heap.objs.size (.idict [])) { s with heap:=s.heap.push { cls:=.type "dict",data:=.dict #[] } }/\Step E0 O s (O.set s.heap.objs.size (.idict [])) { s with heap:=s.heap.push { cls:=.type "dict",data:=.dict #[] } }:=
 ⟨a.alloc s.toks λ_=>(jU [] (Heap.DictOf.new _) .nil (fV _) (zgo XO a)),Step.alloc a _ _ s.toks⟩
theorem zmc{pos:Pos}(XO:X.Ok):zg X env nm (.Dict [] [] pos) A.dT0:=λd A l O s Q Z L a F q=>by
 have h:=zof XO a;exact wpAny_Dict_empty (zn (.ref _) _ (.ref _) h.1 h.2 (by rw[jr rfl];exact q _ (qh (a.none_of_size (fO _)))))
theorem zmd{ke ve:Expr}{pos:Pos}{mk mv:AE}(XO:X.Ok)(hk:zg X env nm ke mk)(hv:zg X env nm ve mv):zg X env nm (.Dict [some ke] [ve] pos) (A.dT1 mk mv):=λd A l O s Q Z L a F q=>by
 have hn:=zof XO a;have a0:=hn.1;have st0:=hn.2;refine wpAny_Dict_any rfl rfl (by simp) (by simp) ?_;have F0:=F.step a st0;have q0:=q _ (qh (a.none_of_size (fO _)));rw[<-jr rfl] at q0;show wpAny X.M A (do
  let kv <-eval ke env
  let vv <-holding [kv] (do let x <-eval ve env;standAt pos;pure x)
  return (kv,vv)::(<-holding [kv,vv] (evalPairs []))) _ _ _
 refine G7 (G9 (hk d A l _ _ _ _ L a0 F0 q0) (λkv s1 x=>?_) λ_ _ x=>x.back st0);refine zh x λak σ1 rk a1 st1 q1=>?_;refine G7 (Ha (G7 (G9 (hv d A l σ1 s1 _ _ L a1 (F0.step a0 st1) q1) (λvv s2 x=>?_) λ_ _ x=>x.back (st0.trans st1))));refine zh x λax σ2 rx a2 st2 q2=>?_;refine G7 (Hh (G8 (G7 (Ha (G8 (G8 ?_))))));have rk2:=rk.mono (st2.keepV0 a1);refine zj q2 λrow e12_1 hp q3=>?_;subst e12_1;refine Hd _ (λrest _ s'=>(rest=[(kv,vv)]/\s'=s2)\/(rest=[]/\∃σ3,At X σ3 s'/\Step E0 σ2 s2 σ3 s'/\Q (.ref s.heap.objs.size) (vis σ3))) _ ?_ ?_ _ _ (.inl ⟨rfl,rfl⟩)
 .rintro x rest b s' (⟨e,rfl⟩|⟨e,_⟩)
  .cases e;exact G7 (zqC L a2 (zB hp).1 rk2 rx (by decide) λs4 a4 st4=>G8 (.inr (zf5 rfl _ a4 st4 (by rw[jr rfl];exact q3))))
  .cases e
 .rintro b s' (⟨e,_⟩|⟨_,σ3,a3,st3,q4⟩)
  .cases e
  .exact zn (.ref _) σ3 (.ref _) a3 (st0.trans (st1.trans (st2.trans st3))) q4
inductive SoundPs(X:Cx)(env:Env)(nm:List (Str×Nat)):List (Option Expr)->List Expr->List (AE×AE)->Prop
 | nil:SoundPs X env nm [] [] []
 | cons {k v ks vs mk mv ms}:zg X env nm k mk->zg X env nm v mv->SoundPs X env nm ks vs ms->SoundPs X env nm (some k::ks) (v::vs) ((mk,mv)::ms)
inductive RepPs(O:AHeap)(h:Heap):List (AV×AV)->List (Value×Value)->Prop
 | nil:RepPs O h [] []
 | cons {k x u v kvs uvs}:RepV O h k u->RepV O h x v->RepPs O h kvs uvs->RepPs O h ((k,x)::kvs) ((u,v)::uvs)
theorem RepPs.mono{O':AHeap}{h h':Heap}(k:KeepV O h O' h'){kvs:List (AV×AV)}{uvs:List (Value×Value)}(r:RepPs O h kvs uvs):RepPs O' h' kvs uvs:=by
 induction r with
 | nil=>exact .nil
 | cons a b _ ih=>exact .cons (a.mono k) (b.mono k) ih
theorem zhV{pos:Pos}{ks:List (Option Expr)}{vs:List Expr}{ms:List (AE×AE)}(h:SoundPs X env nm ks vs ms):∀{d A l O s Q Z},Live X d A->At X O s->FR X env nm l O s.heap->zjA ms d l Q Z (vis O)->
  wpAny X.M A (evalPairs (pairTrees ks vs env pos)) (λuvs s'=>∃kvs O',kvs.length=ms.length/\RepPs O' s'.heap kvs uvs/\At X O' s'/\Step E0 O s O' s'/\Q kvs (vis O')) (liftX X O s Z) s:=by
 induction h with
 | nil=>intro d A l O s Q Z L a F q;exact evalPairs_nil ⟨[],O,rfl,.nil,a,.refl ..,q⟩
 | @cons k v ks vs mk mv ms hk hv r ih=>
  intro d A l O s Q Z L a F q;refine evalPairs_cons (G9 (hk d A l O s _ Z L a F q) (λkv s1 x=>?_) λ_ _ x=>x);refine zh x λak σ1 rk a1 st1 q1=>?_;refine G7 (G9 (hv d A l σ1 s1 _ Z L a1 (F.step a st1) q1) (λvv s2 x=>?_) λ_ _ x=>x.back st1);refine zh x λax σ2 rx a2 st2 q2=>?_;refine G7 (Hh (G8 ?_));refine G9 (ih L a2 ((F.step a st1).step a1 st2) q2) (λuvs s3 x=>?_) λ_ _ x=>x.back (st1.trans st2);refine zq x λkvs σ3 hl3 r3 a3 st3 q3=>?_;exact ja ((ak,ax)::kvs) σ3 (by rw[fH,fH,hl3]) (.cons ((rk.mono (st2.keepV0 a1)).mono (st3.keepV0 a2)) (rx.mono (st3.keepV0 a2)) r3) a3 (st1.trans (st2.trans st3)) q3
theorem zik{A:Around}{E:Value->Shared->Prop}{p:Addr}:∀{uvs:List (Value×Value)} {kvs:List (AV×AV)} {fs gs:List (Nat×AV)} {O:AHeap} {s:Shared} {S:PUnit->Shared->Prop},At X O s->RepPs O s.heap kvs uvs->O p=some (.idict fs)->zj2 kvs fs=some gs->fs.length+kvs.length<100->
  (∀O' s',At X O' s'->Step E0 O s O' s'->vis O'=(vis O).set p (.idict gs)->S PUnit.unit s')->wpAny X.M A (storeAll p uvs) S E s:=by
 intro uvs;unfold storeAll
 induction uvs with
 | nil=>
  intro kvs fs gs O s S a r hp ht hl q;cases r;cases ht;refine G8 (q O s a (.refl ..) ?_)
  funext b
  by_cases hb:b=p
  .subst hb;rw[AHeap.wA];exact zj3 hp rfl
  .rw[AHeap.wB _ _ hb]
 | cons uv uvs ih=>
  intro kvs fs gs O s S a r hp ht hl q;cases r with
  | @cons k x u v kvs _ rk rx r=>
   refine zb (fAJ.mp ht) λn h1 h2=>?_;have h1:=zqy h1;have h1:k = .str n:=h1;subst h1;rw[fH] at hl;rw[List.forIn_cons];refine G7 (G7 (zsF a hp rk rx (zzD hl) λs1 a1 st1=>G8 ?_));have:=zcI fs n x;refine ih a1 (r.mono (st1.keepV0 a)) (AHeap.wA ..) h2 (zBe hl this) λO' s' a' st' e=>q O' s' a' (st1.trans st') ?_;rw[e,jr rfl]
   funext b
   by_cases hb:b=p
   .subst hb;rw[AHeap.wA,AHeap.wA]
   .rw[AHeap.wB _ _ hb,AHeap.wB _ _ hb,AHeap.wB _ _ hb]
theorem SoundPs.all{ks:List (Option Expr)}{vs:List Expr}{ms:List (AE×AE)}(h:SoundPs X env nm ks vs ms):ks.all (·.isSome)=true/\ks.length=vs.length/\ms.length=ks.length:=by
 induction h with
 | nil=>exact⟨rfl,rfl,rfl⟩
 | cons _ _ _ ih=>exact zp (by simpa using ih.1) (by rw[fH,fH,ih.2.1]) (by rw[fH,fH,ih.2.2])
theorem zme{ks:List (Option Expr)}{vs:List Expr}{pos:Pos}{ms:List (AE×AE)}(XO:X.Ok)(h:SoundPs X env nm ks vs ms)(hl:ks.length<=15):zg X env nm (.Dict ks vs pos) (A.dic ms):=λd A l O s Q Z L a F q=>by
 have hn:=zt0 XO a;have a0:=hn.1;have st0:=hn.2;have q0:=q _ (qh (a.none_of_size (fO _)));rw[<-jr rfl] at q0
 by_cases he:ks=[]
 .subst he;cases h;obtain⟨_,q1⟩:=q0;refine wpAny_Dict_empty (zn (.ref _) _ (.ref _) a0 st0 ?_);have e:(vis (O.set s.heap.objs.size (.idict []))).set s.heap.objs.size (.idict [])=vis (O.set s.heap.objs.size (.idict [])):=by
   rw[jr rfl]
   funext b
   by_cases hb:b=s.heap.objs.size
   .subst hb;rw[AHeap.wA,AHeap.wA]
   .rw[AHeap.wB _ _ hb]
  rw[<-e];exact q1
 .have ha:=h.all;refine wpAny_Dict_any ha.1 ha.2.1 he hl ?_;refine G9 (zhV h L a0 (F.step a st0) q0) (λuvs s1 x=>?_) λ_ _ x=>x.back st0;refine zdF x λkvs σ1 hkl0 r1 a1 st1 hp q1=>?_;refine zb (zf q1) λfs ht q2=>?_;have hkl:kvs.length<100:=by have:=ha.2.2;lia
  exact zik a1 r1 (zB hp).1 ht (by simpa using hkl) λσ2 s2 a2 st2 e=>(zn (.ref _) σ2 (.ref _) a2 (st0.trans (st1.trans st2)) (by rw[e];exact q2))
end
noncomputable def zdh(e:Expr):Bool:=!(Nat.beq e.ctorIdx 8||Nat.beq e.ctorIdx 9||Nat.beq e.ctorIdx 10)
theorem zc2{e:Expr}(h:zdh e=true)(t:Option Expr)(line:Nat)(env:Env):swapsWith e t line env=pure false:=by
 cases e<;>first|rfl|exact nob h
theorem zjZ(e:Expr)(o:Expr)(x:Str)(p:Pos)(line:Nat)(env:Env):swapsWith e (some (.Attribute o x p)) line env=pure false:=by
 cases e<;>rfl
theorem zmx(e:Expr)(o i:Expr)(p:Pos)(line:Nat)(env:Env):swapsWith e (some (.Subscript o i p)) line env=pure false:=by
 cases e<;>rfl
noncomputable def zcA:Expr->Bool
 | .Call f _ _ _=>(match f with
  | .Name ..=>false
  | _=>true)
 | _=>true
theorem zbr{o:Expr}(h:zcA o=true)(name:Str)(env:Env)(w:Sem Value):attributeBase o name env w=w:=by
 cases o with
 | Call f _ _ _=>cases f<;>first|rfl|exact nob h
 | _=>rfl
noncomputable def veB:List Value:=[.type "ValueError",.type "Exception",.type "BaseException",.type "object"]
structure ExcCls(h:Heap)(C:Addr)(tl:List Addr):Prop where
 ex:∃nm q N bs hdct sn sub ab col dd k0 k1 k2 k3 k5 mN,h.get? C=some (excClassObj nm q C N bs (tl.map .ref++veB) hdct sn sub ab col dd k0 k1 k2 k3 k5 "ValueError.__new__")/\h.Ns N mN/\mN "__init__" = none/\OwnTail h veB (tl.map .ref++veB)
namespace A
end A
section
variable{X:Cx}{env:Env}{nm:List (Str×Nat)}
end
section
variable{M:Model}{A:Around}{E:Value->Shared->Prop}{h:Heap}{g:Array GenState}{d:Drawn}{t:Nat}{os:OsState}{C':Addr}{tl tl':List Addr}
end
theorem ExcCls.keeps{h h':Heap}{C:Addr}{tl:List Addr}(x:ExcCls h C tl)(k:∀b o,h.get? b=some o->h'.get? b=some o):ExcCls h' C tl:=by
 refine k9 x.ex λnmC qC N bs hdct sn sub ab col dd k0 k1 k2 k3 k5 mN h1 h2 h3 h4=>?_;exact⟨nmC,qC,N,bs,hdct,sn,sub,ab,col,dd,k0,k1,k2,k3,k5,mN,k _ _ h1,h2.keeps k,h3,h4.keeps k⟩
section
variable{X:Cx}{env:Env}{nm:List (Str×Nat)}{l:Loc}{O:AHeap}{s:Shared}
theorem FR.fly{g:Heap}{x c:Addr}(F:FR X env nm l O g)(f:Fly X O g x c s.heap):FR X env nm l O s.heap:=by
 have kv:=f.keepV;have hne:=FB.vC F f.exg;refine zb F.ns λm h9_1 hm=>?_;refine jh h9_1 λo es ep ho hd r=>?_;obtain⟨sl,ho'⟩:=f.keepS _ _ ho λq=>hne (.inl q.symm);have cellK:∀y b o v,(y,b)∈env.cells->g.get? b=some o->o.data = .cell v->s.heap.get? b=some o:=λy b o v hy e hd=>f.keepX b o e (λq=>hne (.inr ⟨y,q▸hy⟩)) (.inl λes n q=>by rw[hd] at q;cases q);refine⟨(zd m (qU _ es ep ho' hd r) (λy i hy hk=>(hm y i hy hk).mono kv)),λy i hy hk=>?_,F.out,F.nmok,F.len,λy b hy=>?_⟩
 .refine zl (F.cell y i hy hk) λb v hc h11_3 hr=>?_;refine zb h11_3 λo ho hd=>?_;exact zI b v hc (zd o (cellK y b o v (mem_of_lookup hc) ho hd) hd) (hr.mono kv)
 .refine ko (F.outc y b hy) λh1 h2 v h12_3=>?_;refine zb h12_3 λo ho hd=>?_;exact zae h1 h2 v (zd o (cellK y b o v hy ho hd) hd)
end
section
variable{X:Cx}{env:Env}{nm:List (Str×Nat)}
end
noncomputable def nsB(K:Frag)(N:Addr):Bool:=match K.lookup N with
 | some o=>(match o.data with
  | .dict es _=>es.all (λe=>match e.key with
   | .str _ _=>true
   | _=>false)&&(nsFind es "__init__").isNone
  | _=>false)
 | none=>false
noncomputable def zxI(K:Frag)(A:Addr):Bool:=match K.lookup A with
 | some o=>(match o.data with
  | .cls cd=>nsB K cd.ns
  | _=>false)
 | none=>false
noncomputable def sl6(sl:Array (Option Value)):Bool:=match sl.toList with
 | [_,_,_,_,k,_]=>k==some (.builtin "ValueError.__new__")
 | _=>false
noncomputable def zxK(K:Frag)(C:Addr)(tl:List Addr):Bool:=tl.all (zxI K)&&(match K.lookup C with
 | some o=>o.cls==.type "type"&&sl6 o.slots&&(match o.data with
  | .cls cd=>cd.mro==.ref C::(tl.map .ref++veB)&&!cd.hasDel&&nsB K cd.ns
  | _=>false)
 | none=>false)
structure ExcIs(K:Frag)(D:Addr)(tl:List Addr):Prop where
 b:zxK K D tl=true
 hg:findIn K (.ref D) "__getattribute__" = some (some (.builtin "BaseException.__getattribute__"))
 hg2:findIn K (.ref D) "__getattr__" = some none
 hf:findObj K D none "__class__" = some (.bind (.builtin "getset_descriptor.__get__") (.builtin "object.__class__"))
 hm:mroIn K D (.type "object")=some true
 hmB:mroIn K D (.type "BaseException")=some true
namespace A
end A
section
variable{X:Cx}{K:Frag}{env:Env}{nm:List (Str×Nat)}
end
def zdq(O:AHeap)(x y:AV)(t:Bool):Prop:=∃a b,Rd O x a/\Rd O y b/\a.depth<=100/\b.depth<=100/\ltD a b=some t
def zdp(xs:List AV):Prop:=(∀x∈xs,∃i r,x = .tup (.int i::r))\/∀x∈xs,∃i,x = .int i
@[irreducible] noncomputable def zh8(r:Bool)(xs:List AV)(Q:zk)(O:AHeap):Prop:=∃Y:AV->Nat,zdp xs/\(∀x∈xs,∀y∈xs,zdq O x y (decide (Y x<Y y)))/\∀ys,ys.Perm xs->ys.Pairwise (λx y=>Y x<=Y y)->mkL r ys Q O
def zb7:zbq:=λ_ r as Q O=>zbi as λx=>zm (zS O x) λxs=>zh8 r xs Q O
noncomputable def zj1:AV->Nat
 | .tup l=>l.length
 | _=>0
@[irreducible] noncomputable def zci(r:Bool)(xs:List AV)(Q:zk)(O:AHeap):Prop:=(∀x∈xs,∃l,x = .tup l)/\∀ys,ys.Perm xs->ys.Pairwise (λx y=>zj1 x<=zj1 y)->mkL r ys Q O
@[irreducible] noncomputable def zeA(X:Cx)(f:Addr)(r:Bool)(d:Dp)(xs:List AV)(Q:zk)(O:AHeap):Prop:=∃(key:AV->AV) (Y:AV->Nat),d.n<590/\(∀x∈xs,CallOk X f ⟨d.n+1,d.hd⟩ [x] (λk O'=>k=key x/\O'=O) (λ_ _=>False) O)/\(∀x∈xs,∃i r,key x = .tup (.int i::r))/\
 (∀x∈xs,∀y∈xs,zdq O (key x) (key y) (decide (Y x<Y y)))/\∀ys,ys.Perm xs->ys.Pairwise (λx y=>Y x<=Y y)->mkL r ys Q O
namespace A
def wZ(r:Bool)(m:AE):AE:=λd l Q Z O=>m d l (λv σ1=>zm (zS σ1 v) λxs=>zci r xs Q σ1) Z O
def w5(X:Cx)(f:Addr)(r:Bool)(m:AE):AE:=λd l Q Z O=>m d l (λv σ1=>zm (zS σ1 v) λxs=>zeA X f r d xs Q σ1) Z O
end A
structure SB(κ:SortKind)(a₀:Array Hu)(st:SortSt):Prop where
 perm:(Ht st).Perm a₀
 kind:kindOf st=κ
 failed:failedOf st=none
noncomputable def Rk(Y:Hu->Nat)(xs:Array Hu)(i:Nat):Nat:=match xs[i]? with|some p=>Y p|none=>0
def Srt(Y:Hu->Nat)(xs:Array Hu)(a b:Nat):Prop:=∀i j,a<=i->i<=j->j<b->Rk Y xs i<=Rk Y xs j
def Dsc(Y:Hu->Nat)(xs:Array Hu)(a b:Nat):Prop:=∀i j,a<=i->i<=j->j<b->Rk Y xs j<=Rk Y xs i
def Out(xs ys:Array Hu)(a b:Nat):Prop:=∀k,(k<a\/b<=k)->ys[k]? = xs[k]?
theorem jN{Y:Hu->Nat}{xs ys:Array Hu}{i j:Nat}(h:xs[i]? = ys[j]?):Rk Y xs i=Rk Y ys j:=by unfold Rk;rw[h]
theorem ze0{Y:Hu->Nat}{xs:Array Hu}{src d:Nat}(hs:src<xs.size)(hd:d<=src)(k:Nat) :
  Rk Y (bubble xs src d) k=if k=src-d then Rk Y xs src else if src-d<k/\k<=src then Rk Y xs (k-1) else Rk Y xs k:=by
 have e:=getElem?_bubble hs d hd k;split at e
 .rw[if_pos (by assumption)];exact jN e
 .rw[if_neg (by assumption)];split at e
  .rw[if_pos (by assumption)];exact jN e
  .rw[if_neg (by assumption)];exact jN e
theorem zcm{Y:Hu->Nat}{xs:Array Hu}{i j:Nat}(hj:j<=xs.size)(k:Nat) :
  Rk Y (mirror xs i j ((j-i)/2)) k=if i<=k/\k<j then Rk Y xs (i+j-1-k) else Rk Y xs k:=by
 have e:=getElem?_mirror_all (i:=i) hj k;split at e
 .rw[if_pos (by assumption)];exact jN e
 .rw[if_neg (by assumption)];exact jN e
theorem k7{Y:Hu->Nat}{xs:Array Hu}{i j:Nat}(hj:j<=xs.size)(he:∀k,i<=k->k<j->Rk Y xs k=Rk Y xs (j-1))(k:Nat):Rk Y (mirror xs i j ((j-i)/2)) k=Rk Y xs k:=by
 rw[zcm hj];split
 .rw[he _ (zAV (by assumption)) (zAU (by assumption)),he k (zAT (by assumption)) (zA0 (by assumption))]
 .rfl
theorem Out.refl(xs:Array Hu)(a b:Nat):Out xs xs a b:=λ_ _=>rfl
theorem Out.trans{xs ys zs:Array Hu}{a b:Nat}(h:Out xs ys a b)(h':Out ys zs a b):Out xs zs a b:=λk hk=>(h' k hk).trans (h k hk)
theorem Out.wide{xs ys:Array Hu}{a b a' b':Nat}(h:Out xs ys a b)(h1:a'<=a)(h2:b<=b'):Out xs ys a' b':=λk hk=>h k (zDC h1 h2 hk)
theorem zal{xs:Array Hu}{i j:Nat}(hj:j<=xs.size):Out xs (mirror xs i j ((j-i)/2)) i j:=λk hk=>by
 rw[getElem?_mirror_all hj,if_neg (zAY hk)]
theorem zjy{xs:Array Hu}{src d:Nat}(hs:src<xs.size)(hd:d<=src):Out xs (bubble xs src d) (src-d) (src+1):=λk hk=>by
 rw[getElem?_bubble hs d hd,if_neg (zAS hk),if_neg (zAZ hk)]
theorem SB.size{κ:SortKind}{a₀:Array Hu}{st:SortSt}(h:SB κ a₀ st):(Ht st).size=a₀.size:=h.perm.size_eq
theorem SB.setArr{κ:SortKind}{a₀:Array Hu}{st:SortSt}(h:SB κ a₀ st){xs:Array Hu}(hp:xs.Perm (Ht st)):SB κ a₀ (PyProof.Rows.setArr st xs):=⟨hp.trans h.perm,h.kind,h.failed⟩
theorem SB.at_{κ:SortKind}{a₀:Array Hu}{st:SortSt}(h:SB κ a₀ st){i:Nat}(hi:i<a₀.size):∃p,(Ht st)[i]? = some p/\p∈a₀.toList:=by
 have hi':i<(Ht st).size:=by rw[h.size];exact hi
 exact zd ((Ht st)[i]) (getElem?_pos _ i hi') ((fAM.mp h.perm).mem_iff.mp (by simp))
def qt(prog:Hi)(w:World)(A:Around)(s:Shared)(κ:SortKind)(Y:Hu->Nat)(a₀:Array Hu):Prop:=
 ∀p q,p∈a₀.toList->q∈a₀.toList->∀(Q:Bool->Shared->Prop) (E:Value->Shared->Prop),Q (decide (Y p<Y q)) s->wpAny (model prog w) A (keyLt' κ p.1 q.1) Q E s
section
variable{prog:Hi}{w:World}{A:Around}{E:Value->Shared->Prop}{s:Shared}{a₀:Array Hu}{κ:SortKind}{Y:Hu->Nat}
theorem zoB(H:qt prog w A s κ Y a₀){st:SortSt}(hB:SB κ a₀ st){p q:Hu}(hp:p∈a₀.toList)(hq:q∈a₀.toList){Q:Option Bool->SortSt->Prop}(h:Q (some (decide (Y p<Y q))) st):wpS (model prog w) A E s (lt' p q) Q st:=by
 rw[lt'_eq];refine Hm (wpS_get ?_);rw[hB.kind];refine Hm (wpS_lift (wpAny_attempt (H p q hp hq _ _ ⟨rfl,?_⟩)));exact Hn h
theorem z0{arr:Array Hu}{i:Nat}{p:Hu}{st:SortSt}{Q:Hu->SortSt->Prop}(hp:arr[i]? = some p)(h:Q p st):wpS (model prog w) A E s (elem' arr i) Q st:=by
 rw[elem'_eq,hp];exact Hn h
theorem zeu(H:qt prog w A s κ Y a₀){st:SortSt}(hB:SB κ a₀ st){i j:Nat}(hi:i<a₀.size)(hj:j<a₀.size){Q:Option Bool->SortSt->Prop}(h:Q (some (decide (Rk Y (Ht st) i<Rk Y (Ht st) j))) st) :
  wpS (model prog w) A E s (ltAt' i j) Q st:=by
 refine zb (hB.at_ hi) λp e1 h1=>?_;refine zb (hB.at_ hj) λq e2 h2=>?_;rw[ltAt'_eq];refine Hm (wpS_get ?_);refine Hm (z0 e1 (Hm (z0 e2 (zoB H hB h1 h2 ?_))));unfold Rk at h;rw[e1,e2] at h;exact h
theorem zbd{st:SortSt}{i j:Nat}{Q:Unit->SortSt->Prop}(h:Q () (setArr st (mirror (Ht st) i j ((j-i)/2)))):wpS (model prog w) A E s (reverseSlice' i j) Q st:=by
 rw[reverseSlice'_eq];exact wpS_modify h
end
noncomputable def upL(lo a nrem:Nat):StateT SortSt Sem AscSt:=
 forIn [a:nrem] ((none,a):AscSt) λ_ r=>do
  let x <-ltAt' (lo+r.snd) (lo+r.snd-1)
  match x with
  | some smaller=>if smaller=true then pure (ForInStep.done (none,r.snd)) else pure (ForInStep.yield (none,r.snd+1))
  | _=>pure (ForInStep.done (some none,r.snd))
noncomputable def zne(lo n nrem:Nat):StateT SortSt Sem (Option Nat):=do
 reverseSlice' lo (lo+n)
 let r <-upL lo n nrem
 match r.fst with
 | some r=>pure r
 | none=>pure (some r.snd)
noncomputable def zki(lo n nrem:Nat):StateT SortSt Sem DescSt:=
 forIn [n:nrem] ((none,n,0):DescSt) λ_ r=>do
  let x <-ltAt' (lo+r.snd.fst) (lo+r.snd.fst-1)
  match x with
  | some smaller=>
   if smaller=true then
    if r.snd.snd>0 then do
     reverseSlice' (lo+r.snd.fst-(r.snd.snd+1)) (lo+r.snd.fst)
     pure (ForInStep.yield (none,r.snd.fst+1,0))
    else pure (ForInStep.yield (none,r.snd.fst+1,0))
   else do
    let x <-ltAt' (lo+r.snd.fst-1) (lo+r.snd.fst)
    match x with
    | some larger=>
     if larger=true then pure (ForInStep.done (none,r.snd.fst,r.snd.snd))
     else pure (ForInStep.yield (none,r.snd.fst+1,r.snd.snd+1))
    | _=>pure (ForInStep.done (some none,r.snd.fst,r.snd.snd))
  | _=>pure (ForInStep.done (some none,r.snd.fst,r.snd.snd))
noncomputable def zg4(lo n nrem:Nat):StateT SortSt Sem (Option Nat):=do
 liftM (rule "list.sort.descending-run")
 let r <-zki lo (n+1) nrem
 match r.fst with
 | some r=>pure r
 | none=>
  if r.snd.snd>0 then do
   reverseSlice' (lo+r.snd.fst-(r.snd.snd+1)) (lo+r.snd.fst)
   zne lo r.snd.fst nrem
  else zne lo r.snd.fst nrem
theorem zg3(lo nrem:Nat):countRun' lo nrem=(do
  let r <-upL lo 1 nrem
  match r.fst with
  | some r=>pure r
  | none=>
   if (r.snd==nrem)=true then pure (some r.snd)
   else if r.snd>1 then do
    let x <-ltAt' lo (lo+r.snd-1)
    match x with
    | some rose=>if rose=true then pure (some r.snd) else do
      reverseSlice' lo (lo+r.snd)
      zg4 lo r.snd nrem
    | _=>pure none
   else zg4 lo r.snd nrem):=by
 rw[countRun'_eq];unfold zg4 zne zki upL;dsimp only
 congr 1
 funext r
 obtain⟨r,n⟩:=r;cases r with
 | some r=>rfl
 | none=>
  dsimp only;split
  .rfl
  .split
   .congr 1
    funext x
    cases x with
    | none=>rfl
    | some rose=>
     dsimp only;split
     .rfl
     .congr 1
      funext _r
      congr 1;funext _u;congr 1;congr 1;funext s2;obtain⟨r2,n2,q2⟩:=s2
      cases r2 with
      | some r2=>rfl
      | none=>
       dsimp only;split
       .congr 1;funext _v;congr 1;funext _w;congr 1;funext s3;obtain⟨r3,n3⟩:=s3;cases r3<;>rfl
       .congr 1;funext _w;congr 1;funext s3;obtain⟨r3,n3⟩:=s3;cases r3<;>rfl
   .congr 1;funext _u;congr 1;congr 1;funext s2;obtain⟨r2,n2,q2⟩:=s2
    cases r2 with
    | some r2=>rfl
    | none=>
     dsimp only;split
     .congr 1;funext _v;congr 1;funext _w;congr 1;funext s3;obtain⟨r3,n3⟩:=s3;cases r3<;>rfl
     .congr 1;funext _w;congr 1;funext s3;obtain⟨r3,n3⟩:=s3;cases r3<;>rfl
section
variable{prog:Hi}{w:World}{A:Around}{E:Value->Shared->Prop}{s:Shared}{a₀:Array Hu}{κ:SortKind}{Y:Hu->Nat}
theorem Srt.snoc{xs:Array Hu}{lo x:Nat}(h:Srt Y xs lo (lo+x))(hx:1<=x)(h':Rk Y xs (lo+x-1)<=Rk Y xs (lo+x)):Srt Y xs lo (lo+(x+1)):=λi j hi hij hj=>by
 by_cases hjx:j<lo+x
 .exact h i j hi hij hjx
 .have e:j=lo+x:=by exact zwM hj hjx
  subst e
  by_cases hi':i=lo+x
  .rw[hi'];exact fO _
  .exact fE (h i (lo+x-1) hi (zwR hij hi') (zsY hx)) h'
theorem Dsc.snoc{xs:Array Hu}{lo x:Nat}(h:Dsc Y xs lo (lo+x))(hx:1<=x)(h':Rk Y xs (lo+x)<=Rk Y xs (lo+x-1)):Dsc Y xs lo (lo+(x+1)):=λi j hi hij hj=>by
 by_cases hjx:j<lo+x
 .exact h i j hi hij hjx
 .have e:j=lo+x:=by exact zwM hj hjx
  subst e
  by_cases hi':i=lo+x
  .rw[hi'];exact fO _
  .exact fE h' (h i (lo+x-1) hi (by exact zwR hij hi') (zsY hx))
theorem zrt(H:qt prog w A s κ Y a₀){st:SortSt}{lo a nrem:Nat}{Q:AscSt->SortSt->Prop}(hn:lo+nrem<=a₀.size)(ha:1<=a)(han:a<=nrem)(hB:SB κ a₀ st)(hs:Srt Y (Ht st) lo (lo+a))
  (h:∀n,a<=n->n<=nrem->Srt Y (Ht st) lo (lo+n)->(n=nrem\/Rk Y (Ht st) (lo+n)<Rk Y (Ht st) (lo+n-1))->Q (none,n) st):wpS (model prog w) A E s (upL lo a nrem) Q st:=by
 unfold upL;refine Hq (I:=λx c st'=>st'=st/\c=(none,x)/\Srt Y (Ht st) lo (lo+x)) ?step ?fin (zp rfl rfl hs)
 case fin=>
  intro c st' hR1;refine jb hR1 λe7_0 e7_1 hs'=>?_;subst e7_0;subst e7_1;rw[show max a nrem=nrem by exact zwx han] at hs' ⊢;exact h nrem han (fO _) hs' (.inl rfl)
 case step=>
  intro x c st' hax hxn hR2;refine jb hR2 λe8_0 e8_1 hs'=>?_;subst e8_0;subst e8_1;dsimp only;refine Hm (zeu H hB (zpb hn hxn) (ztd hn hxn) ?_)
  by_cases hl:Rk Y (Ht st') (lo+x)<Rk Y (Ht st') (lo+x-1)
  .simp only[hl,decide_true,if_true];exact Hn (h x hax (zgJ hxn) hs' (.inr hl))
  .simp only[hl,decide_false,gC,if_false];exact Hn (zp rfl rfl (hs'.snoc (zo7 ha hax) (zq0 hl)))
structure RunOk(κ:SortKind)(Y:Hu->Nat)(a₀:Array Hu)(st:SortSt)(lo nrem m:Nat)(st':SortSt):Prop where
 sb:SB κ a₀ st'
 m1:1<=m
 le:m<=nrem
 srt:Srt Y (Ht st') lo (lo+m)
 out:Out (Ht st) (Ht st') lo (lo+nrem)
 pend:Hp st'=Hp st
theorem zoA(H:qt prog w A s κ Y a₀){st st₀:SortSt}{lo n nrem:Nat}{Q:Option Nat->SortSt->Prop}(hn:lo+nrem<=a₀.size)(h1:1<=n)(hnn:n<=nrem)(hB:SB κ a₀ st)(hs:Dsc Y (Ht st) lo (lo+n))
  (ho:Out (Ht st₀) (Ht st) lo (lo+nrem))(hp:Hp st=Hp st₀)(h:∀m st',RunOk κ Y a₀ st₀ lo nrem m st'->Q (some m) st'):wpS (model prog w) A E s (zne lo n nrem) Q st:=by
 unfold zne;have hsz:lo+n<=(Ht st).size:=by rw[hB.size];exact zte hn hnn
 refine Hm (zbd ?_);have hB':SB κ a₀ (setArr st (mirror (Ht st) lo (lo+n) ((lo+n-lo)/2))):=hB.setArr (mirror_perm _ _ _ _);refine Hm (zrt H hn h1 hnn hB' ?_ λm hm1 hm2 hsm _=>Hn (h m _ ⟨hB',zo7 h1 hm1,hm2,hsm,ho.trans ((zal hsz).wide (fO _) (zpa hnn)),hp⟩));intro i j hi hij hj;show Rk Y (mirror (Ht st) lo (lo+n) ((lo+n-lo)/2)) i<=Rk Y (mirror (Ht st) lo (lo+n) ((lo+n-lo)/2)) j;rw[zcm hsz,zcm hsz,if_pos (zCN hi hij hj),if_pos (zCP hi hij hj)];exact hs _ _ (zBN hj) (zDa hij) (zBi h1 hi)
theorem zqr(H:qt prog w A s κ Y a₀){st st₀:SortSt}{lo n nrem:Nat}{Q:DescSt->SortSt->Prop}(hn:lo+nrem<=a₀.size)(h1:1<=n)(hnn:n<=nrem)(hB:SB κ a₀ st)(hs:Dsc Y (Ht st) lo (lo+n))
  (ho:Out (Ht st₀) (Ht st) lo (lo+nrem))(hp:Hp st=Hp st₀)
  (h:∀m neq st',SB κ a₀ st'->n<=m->m<=nrem->Dsc Y (Ht st') lo (lo+m)->neq+1<=m->(∀i,lo+m-(neq+1)<=i->i<lo+m->Rk Y (Ht st') i=Rk Y (Ht st') (lo+m-1))->
   Out (Ht st₀) (Ht st') lo (lo+nrem)->Hp st'=Hp st₀->Q (none,m,neq) st'):wpS (model prog w) A E s (zki lo n nrem) Q st:=by
 unfold zki;refine Hq (I:=λx c st'=>∃neq,c=(none,x,neq)/\SB κ a₀ st'/\Dsc Y (Ht st') lo (lo+x)/\neq+1<=x/\
   (∀i,lo+x-(neq+1)<=i->i<lo+x->Rk Y (Ht st') i=Rk Y (Ht st') (lo+x-1))/\Out (Ht st₀) (Ht st') lo (lo+nrem)/\Hp st'=Hp st₀) ?step ?fin
  (zaf 0 rfl hB hs (by exact zyC h1) (λi h1 h2=>by congr 1;exact zAW h1 h2) ho hp)
 case fin=>
  intro c st' hR3;refine zdE hR3 λneq e9_1 hB' hs' hq he ho' hp'=>?_;subst e9_1;rw[show max n nrem=nrem by exact zwx hnn] at hs' hq he ⊢;exact h nrem neq st' hB' hnn (fO _) hs' hq he ho' hp'
 case step=>
  intro x c st' hax hxn hR4;refine zdE hR4 λneq e10_1 hB' hs' hq he ho' hp'=>?_;subst e10_1;dsimp only;have hsz:lo+x<=(Ht st').size:=by rw[hB'.size];exact zCq hn hxn
  refine Hm (zeu H hB' (zpb hn hxn) (ztd hn hxn) ?_)
  by_cases hl:Rk Y (Ht st') (lo+x)<Rk Y (Ht st') (lo+x-1)
  .simp only[hl,decide_true,if_true]
   by_cases hneq:neq>0
   .rw[if_pos hneq];refine Hm (zbd (Hn (zaf 0 rfl (hB'.setArr (mirror_perm _ _ _ _)) ?_ zv9 (λi h1 h2=>by congr 1;exact zwF h1 h2) (ho'.trans ((zal hsz).wide (zwK hq) (zBD hxn))) hp')));have e:=k7 (Y:=Y) (i:=lo+x-(neq+1)) hsz he;refine Dsc.snoc (λi j hi hij hj=>?_) (zo7 h1 hax) ?_
    .show Rk Y (mirror _ _ _ _) j<=Rk Y (mirror _ _ _ _) i;rw[e,e];exact hs' i j hi hij hj
    .show Rk Y (mirror _ _ _ _) _<=Rk Y (mirror _ _ _ _) _;rw[e,e];exact zgJ hl
   .rw[if_neg hneq];exact Hn (zaf 0 rfl hB' (hs'.snoc (zo7 h1 hax) (zgJ hl)) zv9 (λi h1 h2=>by congr 1;exact zwF h1 h2) ho' hp')
  .simp only[hl,decide_false,gC,if_false];refine Hm (zeu H hB' (ztd hn hxn) (zpb hn hxn) ?_)
   by_cases hg:Rk Y (Ht st') (lo+x-1)<Rk Y (Ht st') (lo+x)
   .simp only[hg,decide_true,if_true];exact Hn (h x neq st' hB' hax (zgJ hxn) hs' hq he ho' hp')
   .simp only[hg,decide_false,gC,if_false];have hx:Rk Y (Ht st') (lo+x)=Rk Y (Ht st') (lo+x-1):=zAz hl hg;refine Hn (zaf (neq+1) rfl hB' (hs'.snoc (zo7 h1 hax) (zq0 hg)) (zzP hq) (λi h1 h2=>?_) ho' hp');rw[show lo+(x+1)-1=lo+x by exact zAG]
    by_cases hix:i=lo+x
    .rw[hix]
    .rw[hx];exact he i (zCe h1) (zBm h2 hix)
theorem zkO(H:qt prog w A s κ Y a₀){st st₀:SortSt}{lo n nrem:Nat}{Q:Option Nat->SortSt->Prop}(hn:lo+nrem<=a₀.size)(hnn:n+1<=nrem)(hB:SB κ a₀ st)(hs:Dsc Y (Ht st) lo (lo+(n+1)))
  (ho:Out (Ht st₀) (Ht st) lo (lo+nrem))(hp:Hp st=Hp st₀)(h:∀m st',RunOk κ Y a₀ st₀ lo nrem m st'->Q (some m) st'):wpS (model prog w) A E s (zg4 lo n nrem) Q st:=by
 unfold zg4;refine Hm (wpS_lift (Hc ⟨rfl,?_⟩));refine Hm (zqr H hn zzs hnn hB hs ho hp λm neq st' hB' hm1 hm2 hs' hq he ho' hp'=>?_);dsimp only;have hsz:lo+m<=(Ht st').size:=by rw[hB'.size];exact zte hn hm2
 by_cases hneq:neq>0
 .rw[if_pos hneq];have e:=k7 (Y:=Y) (i:=lo+m-(neq+1)) hsz he;refine Hm (zbd (zoA H hn (zwk hq) hm2 (hB'.setArr (mirror_perm _ _ _ _)) ?_ (ho'.trans ((zal hsz).wide (zwK hq) (zpa hm2))) hp' h));intro i j hi hij hj;show Rk Y (mirror _ _ _ _) j<=Rk Y (mirror _ _ _ _) i;rw[e,e];exact hs' i j hi hij hj
 .rw[if_neg hneq];exact zoA H hn (zwk hq) hm2 hB' hs' ho' hp' h
theorem zjG(H:qt prog w A s κ Y a₀){st:SortSt}{lo nrem:Nat}{Q:Option Nat->SortSt->Prop}(hn:lo+nrem<=a₀.size)(h1:1<=nrem)(hB:SB κ a₀ st)
  (h:∀m st',RunOk κ Y a₀ st lo nrem m st'->Q (some m) st'):wpS (model prog w) A E s (countRun' lo nrem) Q st:=by
 rw[zg3];refine Hm (zrt H hn (fO 1) h1 hB (λi j hi hij hj=>by rw[show i=j by exact zwY hi hij hj];exact fO _) λn hn1 hn2 hsn hor=>?_);dsimp only
 by_cases hnn:n=nrem
 .rw[if_pos (by simpa using hnn)];exact Hn (h n st ⟨hB,hn1,hn2,hsn,Out.refl _ _ _,rfl⟩)
 .rw[if_neg (by simpa using hnn)]
  by_cases hgt:n>1
  .rw[if_pos hgt];refine Hm (zeu H hB (zA9 hn h1) (zCr hn hn2 hnn) ?_)
   by_cases hr:Rk Y (Ht st) lo<Rk Y (Ht st) (lo+n-1)
   .simp only[hr,decide_true,if_true];exact Hn (h n st ⟨hB,hn1,hn2,hsn,Out.refl _ _ _,rfl⟩)
   .simp only[hr,decide_false,gC,if_false];have hsz:lo+n<=(Ht st).size:=by rw[hB.size];exact zte hn hn2
    have hall:∀k,lo<=k->k<lo+n->Rk Y (Ht st) k=Rk Y (Ht st) (lo+n-1):=by
     intro k hk1 hk2;have a1:=hsn lo k zqW hk1 hk2;have a2:=hsn k (lo+n-1) hk1 (zBn hk2) (zsY hn1);exact zB1 hr a1 a2
    have e:=k7 (Y:=Y) (i:=lo) hsz hall;refine Hm (zbd (zkO H hn (zAg hn2 hnn) (hB.setArr (mirror_perm _ _ _ _)) ?_ ((zal hsz).wide (fO _) (zpa hn2)) rfl h));refine Dsc.snoc (λi j hi hij hj=>?_) (zsO hn1) ?_
    .show Rk Y (mirror _ _ _ _) j<=Rk Y (mirror _ _ _ _) i;rw[e,e,hall i (zj8 hi) (zw8 hij hj),hall j (zBy hi hij) (zwN hj)];exact fO _
    .show Rk Y (mirror _ _ _ _) _<=Rk Y (mirror _ _ _ _) _;rw[e,e];exact zCi hor hnn
  .rw[if_neg hgt];have hn1':n=1:=zyB hn1 hgt;subst hn1';refine zkO H hn (by exact zyy h1 hnn) hB (Dsc.snoc (λi j hi hij hj=>by rw[show i=j by exact zwY hi hij hj];exact fO _) (fO _) (by exact zAN hor hnn)) (Out.refl _ _ _) rfl h
theorem zyi{l r:Nat}(h:l<r):l<=(l+r)/2/\(l+r)/2<r:=⟨(Nat.le_div_iff_mul_le Nat.two_pos).mpr (Nat.mul_two l▸fA0 (fAB h) l),Nat.div_lt_of_lt_mul (Nat.two_mul r▸Nat.add_lt_add_right h r)⟩
theorem zgw(H:qt prog w A s κ Y a₀){st:SortSt}{lo n ok:Nat}{Q:Bool->SortSt->Prop}(hn:lo+n<=a₀.size)(hn1:1<=n)(hok:ok<=n)(hB:SB κ a₀ st)(hs:Srt Y (Ht st) lo (lo+ok))
  (h:∀st',RunOk κ Y a₀ st lo n n st'->Q true st'):wpS (model prog w) A E s (binarySort' lo n ok) Q st:=by
 rw[binarySort'_eq];refine Hm (Ho (Hq (I:=λk c st'=>c=(none,())/\SB κ a₀ st'/\Srt Y (Ht st') lo (lo+min k n)/\Out (Ht st) (Ht st') lo (lo+n)/\Hp st'=Hp st)
  (Q:=λc st'=>c=(none,())/\RunOk κ Y a₀ st lo n n st') ?step ?fin ?init) ?post)
 case post=>
  rintro c st' ⟨rfl,hR⟩;exact Hn (h st' hR)
 case init=>
  refine jz rfl hB (λi j hi hij hj=>?_) (Out.refl _ _ _) rfl
  by_cases h1:ok=0
  .rw[show i=j by exact zDz hi hij hj h1];exact fO _
  .exact hs i j hi hij (zCC hj h1)
 case fin=>
  intro c st' hR5;refine qa hR5 λhc hB' hs' ho' hp'=>?_;rw[show min (max (max ok 1) n) n=n by exact zAK] at hs';exact⟨hc,hB',hn1,fO _,hs',ho',hp'⟩
 case step=>
  intro k c st' hak hkn hR6;refine qa hR6 λe12_0 hB' hs' ho' hp'=>?_;subst e12_0;rw[show min k n=k by exact zwq hkn] at hs';have hk:lo+k<a₀.size:=zpb hn hkn;refine Hm (Ho (Hq (I:=λx c st''=>st''=st'/\∃l r,c=(none,l,r)/\l<=r/\r<=k/\r-l<=k-x/\
    (∀i,i<l->Rk Y (Ht st') (lo+i)<=Rk Y (Ht st') (lo+k))/\(∀i,r<=i->i<k->Rk Y (Ht st') (lo+k)<Rk Y (Ht st') (lo+i)))
   (Q:=λc st''=>st''=st'/\∃l r,c=(none,l,r)/\l<=k/\
    (∀i,i<l->Rk Y (Ht st') (lo+i)<=Rk Y (Ht st') (lo+k))/\(∀i,l<=i->i<k->Rk Y (Ht st') (lo+k)<Rk Y (Ht st') (lo+i))) ?istep ?ifin ?iinit) ?ipost)
  case iinit=>exact jZ rfl 0 k rfl zwa zqW zzr (λi hi=>zBO hi) (λi h1 h2=>zC4 h1 h2)
  case ifin=>
   intro c st'' hR7;refine kg hR7 λe13_0 l r e13_3 hlr hrk hm hlo hhi=>?_;subst e13_0;subst e13_3;have:l=r:=zwS hlr hm;subst this;exact zcr rfl l l rfl hrk hlo hhi
  case istep=>
   intro x c st'' _ hxk hR8;refine kg hR8 λe14_0 l r e14_3 hlr hrk hm hlo hhi=>?_;subst e14_0;subst e14_3;dsimp only
   by_cases hge:l>=r
   .rw[if_pos hge];have:l=r:=zs2 hlr hge;subst this;exact Hn (zcr rfl l l rfl hrk hlo hhi)
   .rw[if_neg hge];have hmd:=zyi (Nat.lt_of_not_le hge);generalize (l+r)/2=md at hmd ⊢;have hm1:=hmd.1;have hm2:=hmd.2;clear hmd;refine Hm (zeu H hB' hk (zEw hn hkn hrk hm2) ?_)
    by_cases hless:Rk Y (Ht st'') (lo+k)<Rk Y (Ht st'') (lo+md)
    .simp only[hless,decide_true,if_true];refine Hn (jZ rfl l md rfl (zj8 hm1) (zxp hrk hm2) (zxr hm hm2) hlo (λi h1 h2=>?_));exact gP hless (hs' _ _ zj9 (zpa h1) (zs9 h2))
    .simp only[hless,decide_false,gC,if_false];refine Hn (jZ rfl (md+1) r rfl (zmD hm2) (zj8 hrk) (zxq hm hm1) (λi h1=>?_) hhi);exact fE (hs' (lo+i) (lo+md) (by exact zj9) (by exact zEs h1) (by exact zEu hrk hm2)) (pE.mp hless)
  case ipost=>
   intro c st'' hR9;refine zlk hR9 λe15_0 l r e15_3 hlk hlo hhi=>?_;subst e15_0;subst e15_3;show wpS _ _ _ _ (do moveDown' (lo+k) (lo+l);pure (ForInStep.yield (none,()))) _ _;rw[moveDown'_eq];have hks:lo+k<(Ht st'').size:=by rw[hB'.size];exact hk
   have hd:lo+k-(lo+l)<=lo+k:=zB6;refine Hm (wpS_modify (Hn (jz rfl (hB'.setArr (bubble_perm _ _ _)) ?_ (ho'.trans ((zjy hks hd).wide zB8 (zBC hkn))) hp')));rw[show min (k+1) n=k+1 by exact zz1 hkn];intro i j hi hij hj;show Rk Y (bubble (Ht st'') (lo+k) (lo+k-(lo+l))) i<=Rk Y (bubble (Ht st'') (lo+k) (lo+k-(lo+l))) j;rw[ze0 hks hd,ze0 hks hd,show lo+k-(lo+k-(lo+l))=lo+l by exact zBY hlk];have hlo':∀i,lo<=i->i<lo+l->Rk Y (Ht st'') i<=Rk Y (Ht st'') (lo+k):=λi h1 h2=>by have:=hlo (i-lo) (by exact zwW h1 h2);rwa [show lo+(i-lo)=i by exact zs3 h1] at this
   have hhi':∀i,lo+l<=i->i<lo+k->Rk Y (Ht st'') (lo+k)<Rk Y (Ht st'') i:=λi h1 h2=>by have:=hhi (i-lo) (by exact zBh h1) (by exact zCs h1 h2);rwa [show lo+(i-lo)=i by exact zBa h1] at this
   repeat' split
   all_goals first
    | (exfalso;(first|exact zDw hij hj (by assumption) (by assumption) (by assumption)|exact zDu hij (by assumption) (by assumption)|exact zDv hij hj (by assumption) (by assumption)))
    | exact fO _
    | exact hlo' _ (zj8 hi) (zCR hij (by assumption) (by assumption))
    | exact fAB (hhi' _ (zC9 hij (by assumption) (by assumption)) (zDB hij hj (by assumption) (by assumption)))
    | exact hs' _ _ (by (first|exact zCb (by assumption)|exact zj8 hi)) (by (first|exact zAj hij|exact zDx hij (by assumption) (by assumption)|exact zj8 hij)) (by (first|exact zDs hj (by assumption)|exact zCd (by assumption)|exact zC8 hlk hj (by assumption) (by assumption)))
end
theorem jS{Y:Hu->Nat}{a:Array Hu}(SA:Srt Y a 0 a.size):a.toList.Pairwise λx y=>Y x<=Y y:=by
 rw[pP];intro i j hi hj hij;have h1:i<a.size:=by simpa using hi
 have h2:j<a.size:=by simpa using hj
 have:=SA i j (fV _) (zgJ hij) h2;have e1:Rk Y a i=Y a.toList[i]:=by unfold Rk;rw[getElem?_pos a i h1];simp
 have e2:Rk Y a j=Y a.toList[j]:=by unfold Rk;rw[getElem?_pos a j h2];simp
 rw[e1,e2] at this;exact this
noncomputable def zab:Bool->Hu->Array Hu->Nat->Nat->Nat->StateT SortSt Sem (Option Nat):=sortPriv% PySem.Builtin.gallop
noncomputable def zfP(left:Bool)(key:Hu)(arr:Array Hu)(base i:Nat):StateT SortSt Sem (Option Bool):=do
 let x <-elem' arr (base+i)
 if left then lt' x key else return (<-lt' key x).map (!·)
section
variable{prog:Hi}{w:World}{A:Around}{E:Value->Shared->Prop}{s:Shared}{a₀:Array Hu}{κ:SortKind}{Y:Hu->Nat}
noncomputable def byd(left:Bool)(Y:Hu->Nat)(key:Hu)(arr:Array Hu)(base i:Nat):Bool:=if left then decide (Rk Y arr (base+i)<Y key) else !decide (Y key<Rk Y arr (base+i))
theorem zch(H:qt prog w A s κ Y a₀){st:SortSt}(hB:SB κ a₀ st){left:Bool}{key:Hu}{arr:Array Hu}{base i:Nat}(hk:key∈a₀.toList)(ha:∀p∈arr.toList,p∈a₀.toList)(hi:base+i<arr.size){Q:Option Bool->SortSt->Prop}
  (h:Q (some (byd left Y key arr base i)) st):wpS (model prog w) A E s (zfP left key arr base i) Q st:=by
 have e:arr[base+i]? = some arr[base+i]:=getElem?_pos arr (base+i) hi;have hm:arr[base+i]∈a₀.toList:=ha _ (by simp);have er:Rk Y arr (base+i)=Y arr[base+i]:=by unfold Rk;rw[e]
 unfold byd at h;rw[er] at h;unfold zfP;refine Hm (z0 e ?_);cases left with
 | true=>simp only[if_true] at h ⊢;exact zoB H hB hm hk h
 | false=>
  simp only[gC,if_false] at h ⊢;exact Hm (zoB H hB hk hm (Hn h))
theorem zyj{l r:Nat}(h:l<r):l<=l+(r-l)/2/\l+(r-l)/2<r:=⟨pR _ _,Nat.add_lt_of_lt_sub' (Nat.div_lt_self (Nat.sub_pos_of_lt h) Nat.one_lt_two)⟩
theorem kQ(H:qt prog w A s κ Y a₀){st:SortSt}(hB:SB κ a₀ st){left:Bool}{key:Hu}{arr:Array Hu}{base n hint:Nat}(hk:key∈a₀.toList)(ha:∀p∈arr.toList,p∈a₀.toList)(hn:base+n<=arr.size)(hh:hint<n)(hs:Srt Y arr base (base+n))
  {Q:Option Nat->SortSt->Prop}(h:∀p,p<=n->(∀i,i<p->byd left Y key arr base i=true)->(∀i,p<=i->i<n->byd left Y key arr base i=false)->Q (some p) st):wpS (model prog w) A E s (zab left key arr base n hint) Q st:=by
 have mono:∀i j,i<=j->j<n->byd left Y key arr base j=true->byd left Y key arr base i=true:=λi j hij hj=>by
  have:=hs (base+i) (base+j) zj9 (zpa hij) (zs9 hj);unfold byd;cases left
  .simp only[gC,if_false,fBQ,decide_eq_false_iff_not];exact zBZ this
  .simp only[if_true,decide_eq_true_eq];exact zBU this
 have mono':∀i j,i<=j->j<n->byd left Y key arr base i=false->byd left Y key arr base j=false:=λi j hij hj hi=>by
  cases hb:byd left Y key arr base j with
  | false=>rfl
  | true=>rw[mono i j hij hj hb] at hi;cases hi
 have bin:∀(lo hi:Nat),lo<=hi->hi<=n->(∀i,i<lo->byd left Y key arr base i=true)->(∀i,hi<=i->i<n->byd left Y key arr base i=false)->∀{Q':(Option (Option Nat)×Nat×Nat)->SortSt->Prop},
   (∀p q,p<=n->(∀i,i<p->byd left Y key arr base i=true)->(∀i,p<=i->i<n->byd left Y key arr base i=false)->Q' (none,q,p) st)->
   wpS (model prog w) A E s (forIn [0:n] ((none,lo,hi):Option (Option Nat)×Nat×Nat) λ_ r=>do
    if r.2.1>=r.2.2 then pure (ForInStep.done (none,r.2.1,r.2.2)) else do
     let x <-zfP left key arr base (r.2.1+(r.2.2-r.2.1)/2)
     match x with
     | some more=>if more=true then pure (ForInStep.yield (none,r.2.1+(r.2.2-r.2.1)/2+1,r.2.2)) else pure (ForInStep.yield (none,r.2.1,r.2.1+(r.2.2-r.2.1)/2))
     | _=>pure (ForInStep.done (some none,r.2.1,r.2.2))) Q' st:=by
  intro lo hi hlh hhn hlo hhi Q' hQ;refine Hq (I:=λx c st'=>st'=st/\∃l r,c=(none,l,r)/\l<=r/\r<=n/\r-l<=n-x/\(∀i,i<l->byd left Y key arr base i=true)/\(∀i,r<=i->i<n->byd left Y key arr base i=false)) ?step ?fin (jZ rfl lo hi rfl hlh hhn (zBz hhn) hlo hhi)
  case fin=>
   intro c st' hR1;refine kg hR1 λe0_0 l r e0_3 h1 h2 h3 h4 h5=>?_;subst e0_0;subst e0_3;have:l=r:=zwS h1 h3;subst this;exact hQ l l h2 h4 h5
  case step=>
   intro x c st' _ hx hR2;refine kg hR2 λe1_0 l r e1_3 h1 h2 h3 h4 h5=>?_;subst e1_0;subst e1_3;dsimp only
   by_cases hge:l>=r
   .rw[if_pos hge];have:l=r:=zs2 h1 hge;subst this;exact Hn (hQ l l h2 h4 h5)
   .rw[if_neg hge];have hmd:=zyj (Nat.lt_of_not_le hge);generalize l+(r-l)/2=md at hmd ⊢;have hm1:=hmd.1;have hm2:=hmd.2;clear hmd;refine Hm (zch H hB hk ha (zEv hn h2 hm2) ?_);dsimp only;cases hb:byd left Y key arr base md with
    | true=>
     exact Hn (jZ rfl _ r rfl (zmD hm2) h2 (zxq h3 hm1) (λi hi=>mono i _ (zs0 hi) (zEt h2 hm2) hb) h5)
    | false=>
     exact Hn (jZ rfl l _ rfl (zj8 hm1) (zxp h2 hm2) (zxr h3 hm2) h4 (λi h6 h7=>mono' _ i h6 h7 hb))
 refine Hm (zch H hB hk ha (zpb hn hh) ?_);dsimp only;cases hb:byd left Y key arr base hint with
 | true=>
  refine Hm (Ho (Hq (I:=λx c st'=>st'=st/\∃a b,c=(none,a,b)/\a<b/\x+1<=b/\hint+a<n/\byd left Y key arr base (hint+a)=true)
   (Q:=λc st'=>st'=st/\∃a b,c=(none,a,b)/\a<b/\hint+a<n/\byd left Y key arr base (hint+a)=true/\(b>=n-hint\/byd left Y key arr base (hint+b)=false)) ?step ?fin (je rfl 0 1 rfl y4 y1 (zz2 hh) (by simpa using hb))) ?post)
  case fin=>
   intro c st' hR3;refine qk hR3 λe2_0 a b e2_3 h1 h2 h3 h4=>?_;subst e2_0;subst e2_3;exact je rfl a b rfl h1 h3 h4 (.inl (zAO h2))
  case step=>
   intro x c st' _ hx hR4;refine qk hR4 λe3_0 a b e3_3 h1 h2 h3 h4=>?_;subst e3_0;subst e3_3;dsimp only
   by_cases hge:b>=n-hint
   .rw[if_pos hge];exact Hn (je rfl a b rfl h1 h3 h4 (.inl hge))
   .rw[if_neg hge];refine Hm (zch H hB hk ha (zDp hn hge) ?_);dsimp only;cases hb':byd left Y key arr base (hint+b) with
    | true=>exact Hn (je rfl b _ rfl zwb (zwh h2) (zB0 hge) hb')
    | false=>exact Hn (je rfl a b rfl h1 h3 h4 (.inr hb'))
  case post=>
   intro c st' hR5;refine qk hR5 λe4_0 a b e4_3 h1 h3 h4 h5=>?_;subst e4_0;subst e4_3;dsimp only;refine Hm (bin _ _ (zCS h1 h3) (zBo hh) (λi hi=>mono i (hint+a) (zBl hi) h3 h4) (λi h6 h7=>?_) λp q hp hq1 hq2=>Hn (h p hp hq1 hq2))
   rcases h5 with h5|h5
   .exact absurd h7 (zxy h5 h6)
   .rcases Nat.lt_or_ge b (n-hint) with h8|h8
    .exact mono' (hint+b) i (zCl h6 h8) h7 h5
    .exact absurd h7 (zxy h8 h6)
 | false=>
  refine Hm (Ho (Hq (I:=λx c st'=>st'=st/\∃a b,c=(none,a,b)/\a<b/\x+1<=b/\a<=hint/\byd left Y key arr base (hint-a)=false)
   (Q:=λc st'=>st'=st/\∃a b,c=(none,a,b)/\a<b/\a<=hint/\byd left Y key arr base (hint-a)=false/\(b>=hint+1\/byd left Y key arr base (hint-b)=true)) ?step2 ?fin2 (je rfl 0 1 rfl y4 y1 zwa (by simpa using hb))) ?post2)
  case fin2=>
   intro c st' hR6;refine qk hR6 λe5_0 a b e5_3 h1 h2 h3 h4=>?_;subst e5_0;subst e5_3;exact je rfl a b rfl h1 h3 h4 (.inl (zBB hh h2))
  case step2=>
   intro x c st' _ hx hR7;refine qk hR7 λe6_0 a b e6_3 h1 h2 h3 h4=>?_;subst e6_0;subst e6_3;dsimp only
   by_cases hge:b>=hint+1
   .rw[if_pos hge];exact Hn (je rfl a b rfl h1 h3 h4 (.inl hge))
   .rw[if_neg hge];refine Hm (zch H hB hk ha (zDo hn hh) ?_);dsimp only;cases hb':byd left Y key arr base (hint-b) with
    | true=>exact Hn (je rfl a b rfl h1 h3 h4 (.inr hb'))
    | false=>exact Hn (je rfl b _ rfl zwb (zwh h2) (zAB hge) hb')
  case post2=>
   intro c st' hR8;refine qk hR8 λe7_0 a b e7_3 h1 h3 h4 h5=>?_;subst e7_0;subst e7_3;dsimp only;refine Hm (bin _ _ (zBP h1) (zBq hh) (λi hi=>?_) (λi h6 h7=>mono' (hint-a) i h6 h7 h4) λp q hp hq1 hq2=>Hn (h p hp hq1 hq2))
   rcases h5 with h5|h5
   .exact absurd hi (zxz h5)
   .rcases Nat.lt_or_ge b (hint+1) with h8|h8
    .exact mono i (hint-b) (zBk hi) (zBp hh) h5
    .exact absurd hi (zxz h8)
end
noncomputable def zfA:Nat->StateT SortSt Sem Unit:=sortPriv% PySem.Builtin.setMinGallop
noncomputable abbrev zjH(st:SortSt)(g:Nat):SortSt:=SortSt.mk' (kindOf st) (Ht st) (Hp st) g (failedOf st)
theorem zoG(g:Nat):zfA g=modify λs=>zjH s g:=rfl
noncomputable def zeg:Array Hu->Array Hu->StateT SortSt Sem (Array Hu):=sortPriv% PySem.Builtin.mergeLo
noncomputable def zef:Array Hu->Array Hu->StateT SortSt Sem (Array Hu):=sortPriv% PySem.Builtin.mergeHi
structure MI(Y:Hu->Nat)(a b out:Array Hu)(ia ib:Nat):Prop where
 la:ia<=a.size
 lb:ib<=b.size
 perm:(out.toList++a.toList.drop ia++b.toList.drop ib).Perm (a.toList++b.toList)
 srt:out.toList.Pairwise λx y=>Y x<=Y y
 oa:∀x∈out.toList,∀y∈a.toList.drop ia,Y x<=Y y
 ob:∀x∈out.toList,∀y∈b.toList.drop ib,Y x<=Y y
structure MR(Y:Hu->Nat)(a b r:Array Hu):Prop where
 perm:r.toList.Perm (a.toList++b.toList)
 srt:r.toList.Pairwise λx y=>Y x<=Y y
theorem j5{Y:Hu->Nat}{a:Array Hu}{i:Nat}{y:Hu}(h:y∈a.toList.drop i):∃j,i<=j/\j<a.size/\a[j]? = some y/\Rk Y a j=Y y:=by
 obtain⟨k,hk⟩:=fAR.mp h;rw[fC4] at hk;have hk':a[i+k]? = some y:=by rw[<-gK];exact hk
 have hlt:i+k<a.size:=by
  have:=(fX.mp hk).1
  simpa using this
 exact jU (i+k) zj9 hlt hk' (by unfold Rk;rw[hk'])
theorem qM{Y:Hu->Nat}{a:Array Hu}{i:Nat}{y:Hu}(h:y∈a.toList.take i):∃j,j<i/\j<a.size/\a[j]? = some y/\Rk Y a j=Y y:=by
 obtain⟨k,hk⟩:=fAR.mp h;rw[List.getElem?_take] at hk;split at hk
 .have hk':a[k]? = some y:=by rw[<-gK];exact hk
  have hlt:k<a.size:=by
   have:=(fX.mp hk).1
   simpa using this
  exact jU k (zs1 (by assumption)) hlt hk' (by unfold Rk;rw[hk'])
 .cases hk
theorem zfZ{a:Array Hu}{i:Nat}{x:Hu}(h:a[i]? = some x):a.toList.drop i=x::a.toList.drop (i+1):=by
 have h':a.toList[i]? = some x:=by rw[gK];exact h
 obtain⟨hi,e⟩:=fX.mp h';rw[pB hi,e]
theorem zkV{a:Array Hu}{i:Nat}{x:Hu}(h:a[i]? = some x):a.toList.take (i+1)=a.toList.take i++[x]:=by
 have h':a.toList[i]? = some x:=by rw[gK];exact h
 rw[fAN,h'];rfl
section
variable{Y:Hu->Nat}{a b out:Array Hu}{ia ib:Nat}
theorem MI.pushB(M:MI Y a b out ia ib)(SA:Srt Y a 0 a.size)(SBb:Srt Y b 0 b.size){x:Hu}(hx:b[ib]? = some x)(hib:ib<b.size)(hle:ia<a.size->Y x<=Rk Y a ia):MI Y a b (out.push x) ia (ib+1):=by
 have ex:Rk Y b ib=Y x:=by unfold Rk;rw[hx]
 have hd:=zfZ hx;refine⟨M.la,zmD hib,?_,?_,?_,?_⟩
 .refine List.Perm.trans ?_ M.perm;rw[hd,gE];simp only[gH,List.singleton_append];refine List.Perm.append_left _ ?_;exact(fDK (l₁:=List.drop ia a.toList)).symm
 .rw[gE,gF];exact zp M.srt (fAY _ _) (λy hy z hz=>by rw[fP.mp hz];exact M.ob y hy x (by rw[hd];exact fB))
 .intro y hy z hz;rw[gE,fS,fP] at hy
  rcases hy with hy|rfl
  .exact M.oa y hy z hz
  .refine zy (j5 (Y:=Y) hz) λj h1 h2 _ h3=>?_;have:=SA ia j (fV _) h1 h2;have:=hle (zq4 h1 h2);exact zxb h3 (by assumption) this
 .intro y hy z hz;rw[gE,fS,fP] at hy
  rcases hy with hy|rfl
  .exact M.ob y hy z (by rw[hd];exact fA _ hz)
  .refine zy (j5 (Y:=Y) hz) λj h1 h2 _ h3=>?_;have:=SBb ib j (fV _) (zo6 h1) h2;exact zq6 ex h3 this
theorem MI.pushA(M:MI Y a b out ia ib)(SA:Srt Y a 0 a.size)(SBb:Srt Y b 0 b.size){x:Hu}(hx:a[ia]? = some x)(hia:ia<a.size)(hle:ib<b.size->Y x<=Rk Y b ib):MI Y a b (out.push x) (ia+1) ib:=by
 have ex:Rk Y a ia=Y x:=by unfold Rk;rw[hx]
 have hd:=zfZ hx;refine⟨zmD hia,M.lb,?_,?_,?_,?_⟩
 .refine List.Perm.trans ?_ M.perm;rw[hd,gE];simp only[gH,List.cons_append];exact List.Perm.refl _
 .rw[gE,gF];exact zp M.srt (fAY _ _) (λy hy z hz=>by rw[fP.mp hz];exact M.oa y hy x (by rw[hd];exact fB))
 .intro y hy z hz;rw[gE,fS,fP] at hy
  rcases hy with hy|rfl
  .exact M.oa y hy z (by rw[hd];exact fA _ hz)
  .refine zy (j5 (Y:=Y) hz) λj h1 h2 _ h3=>?_;have:=SA ia j (fV _) (zo6 h1) h2;exact zq6 ex h3 this
 .intro y hy z hz;rw[gE,fS,fP] at hy
  rcases hy with hy|rfl
  .exact M.ob y hy z hz
  .refine zy (j5 (Y:=Y) hz) λj h1 h2 _ h3=>?_;have:=SBb ib j (fV _) h1 h2;have:=hle (zq4 h1 h2);exact zxb h3 (by assumption) this
theorem zbS{a:Array Hu}{i k:Nat}(h:i+k<a.size):a.extract i (i+(k+1))=(a.extract i (i+k)).push a[i+k]:=by
 apply Array.ext';have e:a[i+k]? = some a[i+k]:=getElem?_pos a (i+k) h;have e':a.toList[i+k]? = some a[i+k]:=by rw[gK];exact e
 rw[gE,pV,pV];simp only[fAC,fCE];rw[fAN,fC4,e'];rfl
theorem zbR(a:Array Hu)(i:Nat):a.extract i i = #[]:=by
 apply Array.ext';rw[pV];simp
theorem append_push(u v:Array Hu)(x:Hu):u++v.push x=(u++v).push x:=by rw[Array.append_push]
theorem MI.w1(SA:Srt Y a 0 a.size)(SBb:Srt Y b 0 b.size)(M:MI Y a b out ia ib)(k:Nat):ia+k<=a.size->(∀i,i<k->ib<b.size->Rk Y a (ia+i)<=Rk Y b ib)->MI Y a b (out++a.extract ia (ia+k)) (ia+k) ib:=by
 induction k with
 | zero=>intro _ _;rw[fBL,zbR];simpa using M
 | succ k ih=>
  intro hk hle;have ih:=ih (zwH hk) λi hi=>hle i (zwr hi);have e:a[ia+k]? = some a[ia+k]:=getElem?_pos a (ia+k) (zmF hk);rw[zbS (zmF hk),append_push];exact ih.pushA SA SBb e (zmF hk) λh=>fE (pF (by unfold Rk;rw[e])) (hle k zo5 h)
theorem MI.w2(SA:Srt Y a 0 a.size)(SBb:Srt Y b 0 b.size)(M:MI Y a b out ia ib)(k:Nat):ib+k<=b.size->(∀i,i<k->ia<a.size->Rk Y b (ib+i)<=Rk Y a ia)->MI Y a b (out++b.extract ib (ib+k)) ia (ib+k):=by
 induction k with
 | zero=>intro _ _;rw[fBL,zbR];simpa using M
 | succ k ih=>
  intro hk hle;have ih:=ih (zwH hk) λi hi=>hle i (zwr hi);have e:b[ib+k]? = some b[ib+k]:=getElem?_pos b (ib+k) (zmF hk);rw[zbS (zmF hk),append_push];exact ih.pushB SA SBb e (zmF hk) λh=>by have:=hle k zo5 h;unfold Rk at this;rw[e] at this;exact this
theorem qP(a:Array Hu)(i:Nat):(a.extract i a.size).toList=a.toList.drop i:=by
 rw[pV,fAC];exact fAL (by simp)
theorem MI.done(M:MI Y a b out ia ib)(SA:Srt Y a 0 a.size)(SBb:Srt Y b 0 b.size)(h:ia=a.size\/ib=b.size):MR Y a b (out++a.extract ia a.size++b.extract ib b.size):=by
 refine⟨by rw[gR,gR,qP,qP];exact M.perm,?_⟩;rw[gR,gR,qP,qP,gF,gF];refine zp (zp M.srt ((jS SA).drop) (λx hx y hy=>M.oa x hx y hy)) ((jS SBb).drop) (λx hx y hy=>?_)
 rcases fS.mp hx with hx|hx
 .exact M.ob x hx y hy
 .rcases h with h|h
  .rw[List.drop_eq_nil_of_le (by simp[h])] at hx;cases hx
  .rw[List.drop_eq_nil_of_le (by simp[h])] at hy;cases hy
theorem MI.lastA(M:MI Y a b out ia ib)(SA:Srt Y a 0 a.size)(SBb:Srt Y b 0 b.size)(h:ia+1=a.size)(hl:∀i,i<b.size->Rk Y b i<=Rk Y a (a.size-1)):MR Y a b (out++b.extract ib b.size++a.extract ia a.size):=by
 refine⟨?_,?_⟩
 .refine List.Perm.trans ?_ M.perm;simp only[gR,qP,gH];exact List.Perm.append_left _ fBP
 .rw[gR,gR,qP,qP,gF,gF];refine zp (zp M.srt ((jS SBb).drop) (λx hx y hy=>M.ob x hx y hy)) ((jS SA).drop) (λx hx y hy=>?_)
  rcases fS.mp hx with hx|hx
  .exact M.oa x hx y hy
  .refine zy (j5 (Y:=Y) hx) λj h1 h2 _ h3=>?_;refine zy (j5 (Y:=Y) hy) λj' h1' h2' _ h3'=>?_;have:=hl j h2;rw[show j'=a.size-1 by exact zBg h h1' h2'] at h3';exact zq6 h3 h3' this
end
structure Gl(st st':SortSt):Prop where
 arr:Ht st'=Ht st
 kind:kindOf st'=kindOf st
 pend:Hp st'=Hp st
 failed:failedOf st'=failedOf st
theorem Gl.refl(st:SortSt):Gl st st:=⟨rfl,rfl,rfl,rfl⟩
theorem Gl.trans{x y z:SortSt}(h:Gl x y)(h':Gl y z):Gl x z:=⟨h'.arr.trans h.arr,h'.kind.trans h.kind,h'.pend.trans h.pend,h'.failed.trans h.failed⟩
theorem Gl.gal(st:SortSt)(g:Nat):Gl st (zjH st g):=⟨rfl,rfl,rfl,rfl⟩
theorem SB.gl{κ:SortKind}{a₀:Array Hu}{st st':SortSt}(h:SB κ a₀ st)(g:Gl st st'):SB κ a₀ st':=⟨by rw[g.arr];exact h.perm,by rw[g.kind];exact h.kind,by rw[g.failed];exact h.failed⟩
noncomputable abbrev St1:=Option (Array Hu)×Array Hu×Nat×Nat×Nat×Nat
noncomputable abbrev St2:=Option (Array Hu)×Array Hu×Nat×Nat×Nat×Nat×Nat
noncomputable abbrev St0:=Option (Array Hu)×Array Hu×Nat×Nat×Nat
noncomputable def t2(a b out:Array Hu)(ia ib mg ac bc:Nat):StateT SortSt Sem (ForInStep St2):=do
 let x <-elem' a ia
 if (ia+1+1==a.size)=true then pure (.done (some (out.push x++b.extract ib b.size++a.extract (ia+1) a.size),out.push x,ia+1,ib,mg,ac,bc))
 else if (decide (ac<7)&&decide (bc<7))=true then pure (.done (none,out.push x,ia+1,ib,mg,ac,bc)) else pure (.yield (none,out.push x,ia+1,ib,mg,ac,bc))
noncomputable def t1(a b out:Array Hu)(ia ib mg ac bc:Nat):StateT SortSt Sem (ForInStep St2):=do
 let x <-elem' b ib
 if (ib+1==b.size)=true then pure (.done (some (out.push x++a.extract ia a.size++b.extract (ib+1) b.size),out.push x,ia,ib+1,mg,ac,bc))
 else do
  let y <-elem' a ia
  let r <-zab true y b (ib+1) (b.size-(ib+1)) 0
  match r with
  | some k=>
   if k>0 then
    if (ib+1+k==b.size)=true then pure (.done (some (out.push x++b.extract (ib+1) (ib+1+k)++a.extract ia a.size++b.extract (ib+1+k) b.size),out.push x++b.extract (ib+1) (ib+1+k),ia,ib+1+k,mg,ac,k))
    else t2 a b (out.push x++b.extract (ib+1) (ib+1+k)) ia (ib+1+k) mg ac k
   else t2 a b (out.push x) ia (ib+1) mg ac k
  | _=>pure (.done (some (out.push x++a.extract ia a.size++b.extract (ib+1) b.size),out.push x,ia,ib+1,mg,ac,bc))
noncomputable def g2(a b out:Array Hu)(ia ib mg ac bc:Nat):StateT SortSt Sem (ForInStep St2):=do
 zfA mg
 let x <-elem' b ib
 let r <-zab false x a ia (a.size-ia) 0
 match r with
 | some k=>
  if k>0 then
   if (ia+k+1==a.size)=true then pure (.done (some (out++a.extract ia (ia+k)++b.extract ib b.size++a.extract (ia+k) a.size),out++a.extract ia (ia+k),ia+k,ib,mg,k,bc))
   else if (ia+k==a.size)=true then pure (.done (some (out++a.extract ia (ia+k)++a.extract (ia+k) a.size++b.extract ib b.size),out++a.extract ia (ia+k),ia+k,ib,mg,k,bc))
   else t1 a b (out++a.extract ia (ia+k)) (ia+k) ib mg k bc
  else t1 a b out ia ib mg k bc
 | _=>pure (.done (some (out++a.extract ia a.size++b.extract ib b.size),out,ia,ib,mg,ac,bc))
noncomputable def b2(a b:Array Hu)(c:St2):StateT SortSt Sem (ForInStep St2):=
 if c.2.2.2.2.1>1 then g2 a b c.2.1 c.2.2.1 c.2.2.2.1 (c.2.2.2.2.1-1) c.2.2.2.2.2.1 c.2.2.2.2.2.2 else g2 a b c.2.1 c.2.2.1 c.2.2.2.1 c.2.2.2.2.1 c.2.2.2.2.2.1 c.2.2.2.2.2.2
noncomputable def b1(a b:Array Hu)(mg:Nat)(c:St1):StateT SortSt Sem (ForInStep St1):=do
 let x <-elem' b c.2.2.2.1
 let y <-elem' a c.2.2.1
 let r <-lt' x y
 match r with
 | some w=>
  if w=true then do
   let x <-elem' b c.2.2.2.1
   if (c.2.2.2.1+1==b.size)=true then pure (.done (some (c.2.1.push x++a.extract c.2.2.1 a.size++b.extract (c.2.2.2.1+1) b.size),c.2.1.push x,c.2.2.1,c.2.2.2.1+1,0,c.2.2.2.2.2+1))
   else if c.2.2.2.2.2+1>=mg then pure (.done (none,c.2.1.push x,c.2.2.1,c.2.2.2.1+1,0,c.2.2.2.2.2+1)) else pure (.yield (none,c.2.1.push x,c.2.2.1,c.2.2.2.1+1,0,c.2.2.2.2.2+1))
  else do
   let x <-elem' a c.2.2.1
   if (c.2.2.1+1+1==a.size)=true then pure (.done (some (c.2.1.push x++b.extract c.2.2.2.1 b.size++a.extract (c.2.2.1+1) a.size),c.2.1.push x,c.2.2.1+1,c.2.2.2.1,c.2.2.2.2.1+1,0))
   else if c.2.2.2.2.1+1>=mg then pure (.done (none,c.2.1.push x,c.2.2.1+1,c.2.2.2.1,c.2.2.2.2.1+1,0)) else pure (.yield (none,c.2.1.push x,c.2.2.1+1,c.2.2.2.1,c.2.2.2.2.1+1,0))
 | _=>pure (.done (some (c.2.1++a.extract c.2.2.1 a.size++b.extract c.2.2.2.1 b.size),c.2.1,c.2.2.1,c.2.2.2.1,c.2.2.2.2.1,c.2.2.2.2.2))
noncomputable def b0(a b:Array Hu)(c:St0):StateT SortSt Sem (ForInStep St0):=do
 let r <-forIn [0:a.size+b.size] ((none,c.2.1,c.2.2.1,c.2.2.2.1,0,0):St1) λ_ r=>b1 a b c.2.2.2.2 r
 match r.1 with
 | some v=>pure (.done (some v,r.2.1,r.2.2.1,r.2.2.2.1,c.2.2.2.2))
 | none=>do
  liftM (rule "list.sort.gallop")
  let q <-forIn [0:a.size+b.size] ((none,r.2.1,r.2.2.1,r.2.2.2.1,c.2.2.2.2+1,r.2.2.2.2.1,r.2.2.2.2.2):St2) λ_ q=>b2 a b q
  match q.1 with
  | some v=>pure (.done (some v,q.2.1,q.2.2.1,q.2.2.2.1,q.2.2.2.2.1))
  | none=>do
   zfA (q.2.2.2.2.1+1)
   pure (.yield (none,q.2.1,q.2.2.1,q.2.2.2.1,q.2.2.2.2.1+1))
noncomputable def mLo(a b:Array Hu):StateT SortSt Sem (Array Hu):=do
 liftM (rule "list.sort.merge-lo")
 let x <-elem' b 0
 if (1==b.size)=true then pure (#[x]++a.extract 0 a.size++b.extract 1 b.size)
 else if (0+1==a.size)=true then pure (#[x]++b.extract 1 b.size++a.extract 0 a.size)
 else do
  let g <-get
  let q <-forIn [0:a.size+b.size] ((none,#[x],0,1,gallopOf g):St0) λ_ q=>b0 a b q
  match q.1 with
  | some v=>pure v
  | none=>liftM (unsupported "internal:list.sort.merge-bound" : Sem (Array Hu))
theorem zsm(a b:Array Hu):zeg a b=mLo a b:=by kernel_rfl
section
variable{prog:Hi}{w:World}{A:Around}{E:Value->Shared->Prop}{s:Shared}{a₀:Array Hu}{κ:SortKind}{Y:Hu->Nat}{a b:Array Hu}
theorem zgx{st:SortSt}{g:Nat}{Q:Unit->SortSt->Prop}(h:Q () (zjH st g)):wpS (model prog w) A E s (zfA g) Q st:=by
 rw[zoG];exact wpS_modify h
structure MG(prog:Hi)(w:World)(A:Around)(s:Shared)(κ:SortKind)(Y:Hu->Nat)(a₀ a b:Array Hu):Prop where
 H:qt prog w A s κ Y a₀
 ha:∀p∈a.toList,p∈a₀.toList
 hb:∀p∈b.toList,p∈a₀.toList
 SA:Srt Y a 0 a.size
 SBb:Srt Y b 0 b.size
 first:∀i,i<a.size->Rk Y b 0<=Rk Y a i
 last:∀i,i<b.size->Rk Y b i<=Rk Y a (a.size-1)
theorem zii{x:Array Hu}(h:Srt Y x 0 x.size)(i:Nat)(hi:i<=x.size):Srt Y x i (i+(x.size-i)):=λu v h1 h2 h3=>h u v (fV _) h2 (zBX hi h3)
theorem at_some{x:Array Hu}{i:Nat}(h:i<x.size):∃p,x[i]? = some p/\p∈x.toList/\Rk Y x i=Y p:=by
 have e:x[i]? = some x[i]:=getElem?_pos x i h;exact zt (x[i]) e (by simp) (by unfold Rk;rw[e])
def InP(Y:Hu->Nat)(a b:Array Hu)(r0:Nat)(out:Array Hu)(ia ib:Nat):Prop:=MI Y a b out ia ib/\ia+1<a.size/\ib<b.size/\(a.size-ia)+(b.size-ib)<=r0
def ztk(Y:Hu->Nat)(a b:Array Hu)(r0:Nat)(c:St2):Prop:=(∃r,c.1=some r/\MR Y a b r)\/(c.1=none/\InP Y a b r0 c.2.1 c.2.2.1 c.2.2.2.1)
def zkc(Y:Hu->Nat)(a b:Array Hu)(r0:Nat)(st:SortSt)(r:ForInStep St2)(st':SortSt):Prop:=Gl st st'/\match r with
 | .done c=>ztk Y a b r0 c
 | .yield c=>c.1=none/\InP Y a b r0 c.2.1 c.2.2.1 c.2.2.2.1
theorem zuc(M:MG prog w A s κ Y a₀ a b){st st0:SortSt}(g:Gl st0 st){out:Array Hu}{ia ib mg ac bc r0:Nat}(I:InP Y a b r0 out ia ib)(hle:Rk Y a ia<=Rk Y b ib):wpS (model prog w) A E s (t2 a b out ia ib mg ac bc) (zkc Y a b r0 st0) st:=by
 refine zj (at_some (Y:=Y) (x:=a) (i:=ia) (by have:=I.2.1;exact zgI this)) λx hx hm hr=>?_;have I1:=I.1.pushA M.SA M.SBb hx (by have:=I.2.1;exact zgI this) λ_=>zwZ hle hr;refine zw I λ_ h1 h2 h3=>?_;refine Hm (z0 hx ?_)
 by_cases he:ia+1+1=a.size
 .rw[if_pos (by simpa using he)];exact Hn ⟨g,.inl (zd _ rfl (I1.lastA M.SA M.SBb he M.last))⟩
 .rw[if_neg (by simpa using he)];have I2:InP Y a b r0 (out.push x) (ia+1) ib:=(zr I1 (zwg h1 he) h2 (zDj h3))
  split
  .exact Hn ⟨g,.inr ⟨rfl,I2⟩⟩
  .exact Hn (zp g rfl I2)
theorem zub(M:MG prog w A s κ Y a₀ a b){st st0:SortSt}(hB:SB κ a₀ st)(g:Gl st0 st){out:Array Hu}{ia ib mg ac bc r0:Nat}(I:InP Y a b r0 out ia ib)(hle:Rk Y b ib<=Rk Y a ia):wpS (model prog w) A E s (t1 a b out ia ib mg ac bc) (zkc Y a b r0 st0) st:=by
 refine zw I λI0 h1 h2 h3=>?_;refine zj (at_some (Y:=Y) (x:=b) (i:=ib) h2) λx hx hm hr=>?_;refine zj (at_some (Y:=Y) (x:=a) (i:=ia) (zgI h1)) λy hy hmy hry=>?_;have I1:=I0.pushB M.SA M.SBb hx h2 λ_=>zwZ hle hr;refine Hm (z0 hx ?_)
 by_cases he:ib+1=b.size
 .rw[if_pos (by simpa using he)];exact Hn ⟨g,.inl (zd _ rfl (I1.done M.SA M.SBb (.inr he)))⟩
 .rw[if_neg (by simpa using he)];refine Hm (z0 hy ?_);refine Hm (kQ M.H hB (M.ha y hmy) M.hb (zz0 h2) (zwy h2 he) (zii M.SBb _ (zmD h2)) λk hk hlt hge=>?_);have hlt':∀i,i<k->Rk Y b (ib+1+i)<Y y:=λi hi=>by have:=hlt i hi;unfold byd at this;simpa using this
  have hge':∀i,k<=i->i<b.size-(ib+1)->Y y<=Rk Y b (ib+1+i):=λi h4 h5=>by have:=hge i h4 h5;unfold byd at this;simpa using this
  dsimp only
  by_cases hk0:k>0
  .rw[if_pos hk0];have I2:=MI.w2 M.SA M.SBb I1 k (zBH hk hk0) λi hi _=>by have:=hlt' i hi;exact zq5 hry this
   by_cases he2:ib+1+k=b.size
   .rw[if_pos (by simpa using he2)];exact Hn ⟨g,.inl (zd _ rfl (I2.done M.SA M.SBb (.inr he2)))⟩
   .rw[if_neg (by simpa using he2)];refine zuc M g (zr I2 h1 (zBG hk hk0 he2) (zDL h3)) ?_;have:=hge' k (fO _) (zBv hk hk0 he2);exact zq3 hry this
  .rw[if_neg hk0];have hk1:k=0:=zv8 hk0;subst hk1;refine zuc M g (zr I1 h1 (zwo h2 he) (zDk h3)) ?_;have:=hge' 0 (fO _) (zwy h2 he);simp only[fBL] at this;exact zq3 hry this
theorem zua(M:MG prog w A s κ Y a₀ a b){st st0:SortSt}(hB:SB κ a₀ st)(g:Gl st0 st){out:Array Hu}{ia ib mg ac bc r0:Nat}(I:InP Y a b r0 out ia ib):wpS (model prog w) A E s (g2 a b out ia ib mg ac bc) (zkc Y a b r0 st0) st:=by
 refine zw I λI0 h1 h2 h3=>?_;refine zj (at_some (Y:=Y) (x:=b) (i:=ib) h2) λx hx hm hr=>?_;refine Hm (zgx ?_);have g':=g.trans (Gl.gal st mg);have hB':=hB.gl (Gl.gal st mg);refine Hm (z0 hx ?_);refine Hm (kQ M.H hB' (M.hb x hm) M.ha (zzM h1) (zwj h1) (zii M.SA _ (zzO h1)) λk hk hlt hge=>?_);have hlt':∀i,i<k->Rk Y a (ia+i)<=Y x:=λi hi=>by have:=hlt i hi;unfold byd at this;simpa using this
 have hge':∀i,k<=i->i<a.size-ia->Y x<Rk Y a (ia+i):=λi h4 h5=>by have:=hge i h4 h5;unfold byd at this;simpa using this
 dsimp only
 by_cases hk0:k>0
 .rw[if_pos hk0];have I2:=MI.w1 M.SA M.SBb I0 k (zBJ hk hk0) λi hi _=>by have:=hlt' i hi;exact ztb hr this
  by_cases he2:ia+k+1=a.size
  .rw[if_pos (by simpa using he2)];exact Hn ⟨g',.inl (zd _ rfl (I2.lastA M.SA M.SBb he2 M.last))⟩
  .rw[if_neg (by simpa using he2)]
   by_cases he3:ia+k=a.size
   .rw[if_pos (by simpa using he3)];exact Hn ⟨g',.inl (zd _ rfl (I2.done M.SA M.SBb (.inl he3)))⟩
   .rw[if_neg (by simpa using he3)];refine zub M hB' g' (zr I2 (zBI hk hk0 he2 he3) h2 (zDM h3)) ?_;have:=hge' k (fO _) (zBw hk hk0 he3);exact zo9 hr this
 .rw[if_neg hk0];have hk1:k=0:=zv8 hk0;subst hk1;refine zub M hB' g' (zr I0 (zzN h1) h2 (zDl h3)) ?_;have:=hge' 0 (fO _) (zwj h1);simp only[fBL] at this;exact zo9 hr this
theorem zyq(M:MG prog w A s κ Y a₀ a b){st st0:SortSt}(hB:SB κ a₀ st)(g:Gl st0 st){c:St2}{r0:Nat}(I:InP Y a b r0 c.2.1 c.2.2.1 c.2.2.2.1):wpS (model prog w) A E s (b2 a b c) (zkc Y a b r0 st0) st:=by
 unfold b2;split
 .exact zua M hB g I
 .exact zua M hB g I
theorem zyp(M:MG prog w A s κ Y a₀ a b){st:SortSt}(hB:SB κ a₀ st){c:St1}{mg r0 x:Nat}(I:InP Y a b (r0-x) c.2.1 c.2.2.1 c.2.2.2.1)(hx0:x<=r0){Q:ForInStep St1->SortSt->Prop}
  (hd:∀r,MR Y a b r->∀rest,Q (.done (some r,rest)) st)(hn:∀c':St1,c'.1=none->InP Y a b (r0-(x+1)) c'.2.1 c'.2.2.1 c'.2.2.2.1->Q (.done c') st/\Q (.yield c') st):wpS (model prog w) A E s (b1 a b mg c) Q st:=by
 refine zw I λI0 h1 h2 h3=>?_;refine zj (at_some (Y:=Y) (x:=b) (i:=c.2.2.2.1) h2) λx' hx hm hr=>?_;refine zj (at_some (Y:=Y) (x:=a) (i:=c.2.2.1) (zgI h1)) λy hy hmy hry=>?_;refine Hm (z0 hx (Hm (z0 hy (Hm (zoB M.H hB (M.hb _ hm) (M.ha _ hmy) ?_)))));dsimp only
 by_cases hw:Y x'<Y y
 .rw[Hz hw,if_pos rfl];have I1:=I0.pushB M.SA M.SBb hx h2 λ_=>zq5 hry hw;refine Hm (z0 hx ?_)
  by_cases he:c.2.2.2.1+1=b.size
  .rw[if_pos (by simpa using he)];exact Hn (hd _ (I1.done M.SA M.SBb (.inr he)) _)
  .rw[if_neg (by simpa using he)];have:=hn (none,c.2.1.push x',c.2.2.1,c.2.2.2.1+1,0,c.2.2.2.2.2+1) rfl (zr I1 h1 (by dsimp only;exact zwo h2 he) (by dsimp only;exact zDU h2 h3));split
   .exact Hn this.1
   .exact Hn this.2
 .rw[Hy hw,if_neg (by simp)];have I1:=I0.pushA M.SA M.SBb hy (zgI h1) λ_=>zBF hr hw;refine Hm (z0 hy ?_)
  by_cases he:c.2.2.1+1+1=a.size
  .rw[if_pos (by simpa using he)];exact Hn (hd _ (I1.lastA M.SA M.SBb he M.last) _)
  .rw[if_neg (by simpa using he)];have:=hn (none,c.2.1.push y,c.2.2.1+1,c.2.2.2.1,c.2.2.2.2.1+1,0) rfl (zr I1 (by dsimp only;exact zwg h1 he) h2 (by dsimp only;exact zDR h1 h3));split
   .exact Hn this.1
   .exact Hn this.2
theorem zyo(M:MG prog w A s κ Y a₀ a b){st st0:SortSt}(hB:SB κ a₀ st)(g:Gl st0 st){c:St0}{r0:Nat}(I:InP Y a b r0 c.2.1 c.2.2.1 c.2.2.2.1){Q:ForInStep St0->SortSt->Prop}
  (hd:∀r st',Gl st0 st'->MR Y a b r->∀rest,Q (.done (some r,rest)) st')(hn:∀(c':St0) st',Gl st0 st'->c'.1=none->InP Y a b (r0-1) c'.2.1 c'.2.2.1 c'.2.2.2.1->Q (.yield c') st'):wpS (model prog w) A E s (b0 a b c) Q st:=by
 have hbig:1<=a.size+b.size:=by have:=I.2.1;exact zBf this
 refine Hm (Ho (Hq (I:=λx c' st'=>st'=st/\c'.1=none/\InP Y a b (r0-x) c'.2.1 c'.2.2.1 c'.2.2.2.1/\x<=r0)
  (Q:=λc' st'=>st'=st/\((∃r,c'.1=some r/\MR Y a b r)\/(c'.1=none/\InP Y a b (r0-1) c'.2.1 c'.2.2.1 c'.2.2.2.1))) ?step ?fin (zr rfl rfl (by simpa using I) (fV _))) ?post)
 case fin=>
  intro c' st' hR1;refine zw hR1 λe0_0 h1 h2 h3=>?_;subst e0_0;exact⟨rfl,.inr (jz h1 h2.1 h2.2.1 h2.2.2.1 (by have:=h2.2.2.2;exact zDi this))⟩
 case step=>
  intro x c' st' _ hx hR2;refine zw hR2 λe1_0 h1 h2 h3=>?_;subst e1_0;refine zyp M hB h2 h3 (λr hr rest=>⟨rfl,.inl (zd r rfl hr)⟩) λc'' hc I''=>(jz ⟨rfl,.inr (jz hc I''.1 I''.2.1 I''.2.2.1 (by have:=I''.2.2.2;exact zDK this))⟩ rfl hc I'' ?_)
  have:=I''.2.2.2;have:=I''.2.1;have:=I''.2.2.1;exact zDN (by assumption) (by assumption)
 case post=>
  rintro c' st' ⟨rfl,h⟩
  rcases h with⟨r,h1,h2⟩|⟨h1,h2⟩
  .rw[h1];exact Hn (hd r _ g h2 _)
  .rw[h1];refine Hm (wpS_lift (Hc ⟨rfl,?_⟩));refine Hm (Ho (Hq (I:=λx q st''=>Gl st0 st''/\SB κ a₀ st''/\q.1=none/\InP Y a b (r0-1) q.2.1 q.2.2.1 q.2.2.2.1) (Q:=λq st''=>Gl st0 st''/\ztk Y a b (r0-1) q) ?step2 ?fin2 (zr g hB rfl h2)) ?post2)
   case fin2=>
    intro q st'' hR3;refine zw hR3 λg' hB' h4 h5=>?_;exact⟨g',.inr ⟨h4,h5⟩⟩
   case step2=>
    intro x q st'' _ hx hR4;refine zw hR4 λg' hB' h4 h5=>?_;refine Ho (zyq M hB' g' h5) λr st3 hl=>?_;cases r with
    | done q'=>exact hl
    | yield q'=>exact zp hl.1 ⟨by rw[hl.1.arr,<-g'.arr];exact hB'.perm,by rw[hl.1.kind,<-g'.kind];exact hB'.kind,by rw[hl.1.failed,<-g'.failed];exact hB'.failed⟩ hl.2
   case post2=>
    rintro q st'' ⟨g',h⟩
    rcases h with⟨r,h4,h5⟩|⟨h4,h5⟩
    .rw[h4];exact Hn (hd r _ g' h5 _)
    .rw[h4];exact Hm (zgx (Hn (hn _ _ (g'.trans (Gl.gal _ _)) rfl h5)))
theorem zl5(M:MG prog w A s κ Y a₀ a b){st:SortSt}(hB:SB κ a₀ st)(h1:1<=a.size)(h2:1<=b.size){Q:Array Hu->SortSt->Prop}(h:∀r st',Gl st st'->MR Y a b r->Q r st'):wpS (model prog w) A E s (zeg a b) Q st:=by
 rw[zsm];refine Hm (wpS_lift (Hc ⟨rfl,?_⟩));refine zj (at_some (Y:=Y) (x:=b) (i:=0) (zsN h2)) λx hx hm hr=>?_;have I0:MI Y a b #[] 0 0:=⟨fV _,fV _,by simp,by simp,by simp,by simp⟩
 have I1:MI Y a b #[x] 0 1:=I0.pushB M.SA M.SBb hx (zsN h2) λh=>by rw[<-hr];exact M.first 0 h
 refine Hm (z0 hx ?_)
 by_cases he:1=b.size
 .rw[if_pos (by simpa using he)];exact Hn (h _ _ (.refl _) (I1.done M.SA M.SBb (.inr he)))
 .rw[if_neg (by simpa using he)]
  by_cases he2:0+1=a.size
  .rw[if_pos (by simpa using he2)];exact Hn (h _ _ (.refl _) (I1.lastA M.SA M.SBb he2 M.last))
  .rw[if_neg (by simpa using he2)];refine Hm (wpS_get ?_);refine Hm (Ho (Hq (I:=λx q st'=>Gl st st'/\q.1=none/\InP Y a b (a.size+b.size-x) q.2.1 q.2.2.1 q.2.2.2.1) (Q:=λq st'=>Gl st st'/\∃r,q.1=some r/\MR Y a b r) ?step ?fin (qb (.refl _) rfl I1 (by dsimp only;exact zyx h1 he2) (by dsimp only;exact zyz h2 he) (by dsimp only;exact zAI))) ?post)
   case fin=>
    intro q st' hR5;refine jb hR5 λg h3 h4=>?_;exfalso;have:=h4.2.2.2;have:=h4.2.1;have:=h4.2.2.1;exact zCh (by assumption) (by assumption)
   case step=>
    intro x q st' _ hx hR6;refine jb hR6 λg h3 h4=>?_;refine zyo M (hB.gl g) g h4 (λr st'' g' hr rest=>(kt g' r rfl hr)) λc' st'' g' h5 h6=>(qb g' h5 h6.1 h6.2.1 h6.2.2.1 (by have:=h6.2.2.2;exact zDh this))
   case post=>
    intro q st' hR7;refine qN hR7 λg r h3 h4=>?_;rw[h3];exact Hn (h r st' g h4)
end
structure MH(Y:Hu->Nat)(a b out:Array Hu)(na nb:Nat):Prop where
 la:na<=a.size
 lb:nb<=b.size
 perm:(a.toList.take na++b.toList.take nb++out.toList.reverse).Perm (a.toList++b.toList)
 srt:out.toList.reverse.Pairwise λx y=>Y x<=Y y
 oa:∀x∈out.toList,∀y∈a.toList.take na,Y y<=Y x
 ob:∀x∈out.toList,∀y∈b.toList.take nb,Y y<=Y x
section
variable{Y:Hu->Nat}{a b out:Array Hu}{na nb:Nat}
theorem MH.pushB(M:MH Y a b out na (nb+1))(SA:Srt Y a 0 a.size)(SBb:Srt Y b 0 b.size){x:Hu}(hx:b[nb]? = some x)(hle:0<na->Rk Y a (na-1)<=Y x):MH Y a b (out.push x) na nb:=by
 have ex:Rk Y b nb=Y x:=by unfold Rk;rw[hx]
 have hd:=zkV hx;have hnb:nb<b.size:=(pO.mp hx).1;refine⟨M.la,zgJ hnb,?_,?_,?_,?_⟩
 .refine List.Perm.trans ?_ M.perm;rw[hd,gE];simp
 .rw[gE,fCX];refine gJ.mpr ⟨λy hy=>?_,M.srt⟩;exact M.ob y (fCQ.mp hy) x (by rw[hd];simp)
 .intro y hy z hz;rw[gE,fS,fP] at hy
  rcases hy with hy|rfl
  .exact M.oa y hy z hz
  .refine zy (qM (Y:=Y) hz) λj h1 h2 _ h3=>?_;have:=SA j (na-1) (fV _) (zqY h1) (by have:=M.la;exact zwX h1 this);have:=hle (zwz h1);exact zw9 h3 (by assumption) this
 .intro y hy z hz;rw[gE,fS,fP] at hy
  rcases hy with hy|rfl
  .exact M.ob y hy z (by rw[hd];exact pH _ hz)
  .refine zy (qM (Y:=Y) hz) λj h1 h2 _ h3=>?_;have:=SBb j nb (fV _) (zgJ h1) hnb;exact zxa ex h3 this
theorem MH.pushA(M:MH Y a b out (na+1) nb)(SA:Srt Y a 0 a.size)(SBb:Srt Y b 0 b.size){x:Hu}(hx:a[na]? = some x)(hle:0<nb->Rk Y b (nb-1)<=Y x):MH Y a b (out.push x) na nb:=by
 have ex:Rk Y a na=Y x:=by unfold Rk;rw[hx]
 have hd:=zkV hx;have hna:na<a.size:=(pO.mp hx).1;refine⟨zgJ hna,M.lb,?_,?_,?_,?_⟩
 .refine List.Perm.trans ?_ M.perm;rw[hd,gE];simp only[gH,fCX,fDB,List.reverse_nil,fA6,List.singleton_append];refine List.Perm.append_left _ ?_;exact fDK
 .rw[gE,fCX];refine gJ.mpr ⟨λy hy=>?_,M.srt⟩;exact M.oa y (fCQ.mp hy) x (by rw[hd];simp)
 .intro y hy z hz;rw[gE,fS,fP] at hy
  rcases hy with hy|rfl
  .exact M.oa y hy z (by rw[hd];exact pH _ hz)
  .refine zy (qM (Y:=Y) hz) λj h1 h2 _ h3=>?_;have:=SA j na (fV _) (zgJ h1) hna;exact zxa ex h3 this
 .intro y hy z hz;rw[gE,fS,fP] at hy
  rcases hy with hy|rfl
  .exact M.ob y hy z hz
  .refine zy (qM (Y:=Y) hz) λj h1 h2 _ h3=>?_;have:=SBb j (nb-1) (fV _) (zqY h1) (by have:=M.lb;exact zwX h1 this);have:=hle (zwz h1);exact zw9 h3 (by assumption) this
theorem zc0{a:Array Hu}{i k:Nat}(h:i+k+1<=a.size):(a.extract i (i+(k+1))).reverse=(a.extract (i+1) (i+1+k)).reverse.push a[i]:=by
 have e:a[i]? = some a[i]:=getElem?_pos a i (zAR h);apply Array.ext';rw[gE,fAV,fAV,pV,pV,fAC,fAC,zfZ e];simp only[fCE];rw[List.take_succ_cons,fDB]
theorem MH.w1(SA:Srt Y a 0 a.size)(SBb:Srt Y b 0 b.size)(k:Nat):∀(at_:Nat) {out:Array Hu},MH Y a b out (at_+k) nb->(∀i,at_<=i->i<at_+k->0<nb->Rk Y b (nb-1)<=Rk Y a i)->MH Y a b (out++(a.extract at_ (at_+k)).reverse) at_ nb:=by
 induction k with
 | zero=>intro at_ out M _;rw[fBL,zbR];simpa using M
 | succ k ih=>
  intro at_ out M hle;have hla:=M.la;have ih:=ih (at_+1) ((zmE:at_+1+k=at_+(k+1))▸M) λi h1 h2 h3=>hle i (zo6 h1) (zwL h2) h3;have e:a[at_]? = some a[at_]:=getElem?_pos a at_ (zwI hla);rw[zc0 (zwG hla),append_push];exact ih.pushA SA SBb e λh=>fE (hle at_ (fO _) zwE h) (pF (by unfold Rk;rw[e]))
theorem MH.w2(SA:Srt Y a 0 a.size)(SBb:Srt Y b 0 b.size)(k:Nat):∀(at_:Nat) {out:Array Hu},MH Y a b out na (at_+k)->(∀i,at_<=i->i<at_+k->0<na->Rk Y a (na-1)<=Rk Y b i)->MH Y a b (out++(b.extract at_ (at_+k)).reverse) na at_:=by
 induction k with
 | zero=>intro at_ out M _;rw[fBL,zbR];simpa using M
 | succ k ih=>
  intro at_ out M hle;have hlb:=M.lb;have ih:=ih (at_+1) ((zmE:at_+1+k=at_+(k+1))▸M) λi h1 h2 h3=>hle i (zo6 h1) (zwL h2) h3;have e:b[at_]? = some b[at_]:=getElem?_pos b at_ (zwI hlb);rw[zc0 (zwG hlb),append_push];exact ih.pushB SA SBb e λh=>fE (hle at_ (fO _) zwE h) (pF (by unfold Rk;rw[e]))
theorem qQ(a:Array Hu)(i:Nat):(a.extract 0 i).toList=a.toList.take i:=by
 simp
theorem MH.done(M:MH Y a b out na nb)(SA:Srt Y a 0 a.size)(SBb:Srt Y b 0 b.size)(h:na=0\/nb=0):MR Y a b (a.extract 0 na++b.extract 0 nb++out.reverse):=by
 refine⟨by rw[gR,gR,qQ,qQ,fAV];exact M.perm,?_⟩;rw[gR,gR,qQ,qQ,fAV,gF,gF];refine zp (zp ((jS SA).take) ((jS SBb).take) (λx hx y hy=>?_)) M.srt (λx hx y hy=>?_)
 .rcases h with h|h
  .subst h;simp at hx
  .subst h;simp at hy
 .have hy':=fCQ.mp hy
  rcases fS.mp hx with hx|hx
  .exact M.oa y hy' x hx
  .exact M.ob y hy' x hx
theorem MH.firstB(M:MH Y a b out na nb)(SA:Srt Y a 0 a.size)(SBb:Srt Y b 0 b.size)(h:nb=1)(hf:∀i,i<a.size->Rk Y b 0<=Rk Y a i):MR Y a b (b.extract 0 nb++a.extract 0 na++out.reverse):=by
 refine⟨?_,?_⟩
 .refine List.Perm.trans ?_ M.perm;simp only[gR,qQ,fAV];exact List.Perm.append_right _ fBP
 .rw[gR,gR,qQ,qQ,fAV,gF,gF];refine zp (zp ((jS SBb).take) ((jS SA).take) (λx hx y hy=>?_)) M.srt (λx hx y hy=>?_)
  .refine zy (qM (Y:=Y) hx) λj h1 h2 _ h3=>?_;refine zy (qM (Y:=Y) hy) λj' h1' h2' _ h3'=>?_;have:=hf j' h2';rw[show j=0 by exact zAr h h1] at h3;exact zq6 h3 h3' this
  .have hy':=fCQ.mp hy
   rcases fS.mp hx with hx|hx
   .exact M.ob y hy' x hx
   .exact M.oa y hy' x hx
end
noncomputable abbrev Sh1:=Option (Array Hu)×Nat×Nat×Array Hu×Nat×Nat
noncomputable abbrev Sh2:=Option (Array Hu)×Nat×Nat×Array Hu×Nat×Nat×Nat
noncomputable abbrev Sh0:=Option (Array Hu)×Nat×Nat×Array Hu×Nat
noncomputable def u2(a b out:Array Hu)(na nb mg ac bc:Nat):StateT SortSt Sem (ForInStep Sh2):=do
 let x <-elem' a (na-1)
 if (na-1==0)=true then pure (.done (some (a.extract 0 (na-1)++b.extract 0 nb++(out.push x).reverse),na-1,nb,out.push x,mg,ac,bc))
 else if (decide (ac<7)&&decide (bc<7))=true then pure (.done (none,na-1,nb,out.push x,mg,ac,bc)) else pure (.yield (none,na-1,nb,out.push x,mg,ac,bc))
noncomputable def u1(a b out:Array Hu)(na nb mg ac bc:Nat):StateT SortSt Sem (ForInStep Sh2):=do
 let x <-elem' b (nb-1)
 if (nb-1==1)=true then pure (.done (some (b.extract 0 (nb-1)++a.extract 0 na++(out.push x).reverse),na,nb-1,out.push x,mg,ac,bc))
 else do
  let y <-elem' a (na-1)
  let r <-zab true y b 0 (nb-1) (nb-1-1)
  match r with
  | some p=>
   if nb-1-p>0 then
    if (p==1)=true then pure (.done (some (b.extract 0 p++a.extract 0 na++(out.push x++(b.extract p (nb-1)).reverse).reverse),na,p,out.push x++(b.extract p (nb-1)).reverse,mg,ac,nb-1-p))
    else if (p==0)=true then pure (.done (some (a.extract 0 na++b.extract 0 p++(out.push x++(b.extract p (nb-1)).reverse).reverse),na,p,out.push x++(b.extract p (nb-1)).reverse,mg,ac,nb-1-p))
    else u2 a b (out.push x++(b.extract p (nb-1)).reverse) na p mg ac (nb-1-p)
   else u2 a b (out.push x) na (nb-1) mg ac (nb-1-p)
  | _=>pure (.done (some (a.extract 0 na++b.extract 0 (nb-1)++(out.push x).reverse),na,nb-1,out.push x,mg,ac,bc))
noncomputable def v2(a b out:Array Hu)(na nb mg ac bc:Nat):StateT SortSt Sem (ForInStep Sh2):=do
 zfA mg
 let x <-elem' b (nb-1)
 let r <-zab false x a 0 na (na-1)
 match r with
 | some p=>
  if na-p>0 then
   if (p==0)=true then pure (.done (some (a.extract 0 p++b.extract 0 nb++(out++(a.extract p na).reverse).reverse),p,nb,out++(a.extract p na).reverse,mg,na-p,bc))
   else u1 a b (out++(a.extract p na).reverse) p nb mg (na-p) bc
  else u1 a b out na nb mg (na-p) bc
 | _=>pure (.done (some (a.extract 0 na++b.extract 0 nb++out.reverse),na,nb,out,mg,ac,bc))
noncomputable def h2(a b:Array Hu)(c:Sh2):StateT SortSt Sem (ForInStep Sh2):=
 if c.2.2.2.2.1>1 then v2 a b c.2.2.2.1 c.2.1 c.2.2.1 (c.2.2.2.2.1-1) c.2.2.2.2.2.1 c.2.2.2.2.2.2 else v2 a b c.2.2.2.1 c.2.1 c.2.2.1 c.2.2.2.2.1 c.2.2.2.2.2.1 c.2.2.2.2.2.2
noncomputable def h1(a b:Array Hu)(mg:Nat)(c:Sh1):StateT SortSt Sem (ForInStep Sh1):=do
 let x <-elem' b (c.2.2.1-1)
 let y <-elem' a (c.2.1-1)
 let r <-lt' x y
 match r with
 | some w=>
  if w=true then do
   let x <-elem' a (c.2.1-1)
   if (c.2.1-1==0)=true then pure (.done (some (a.extract 0 (c.2.1-1)++b.extract 0 c.2.2.1++(c.2.2.2.1.push x).reverse),c.2.1-1,c.2.2.1,c.2.2.2.1.push x,c.2.2.2.2.1+1,0))
   else if c.2.2.2.2.1+1>=mg then pure (.done (none,c.2.1-1,c.2.2.1,c.2.2.2.1.push x,c.2.2.2.2.1+1,0)) else pure (.yield (none,c.2.1-1,c.2.2.1,c.2.2.2.1.push x,c.2.2.2.2.1+1,0))
  else do
   let x <-elem' b (c.2.2.1-1)
   if (c.2.2.1-1==1)=true then pure (.done (some (b.extract 0 (c.2.2.1-1)++a.extract 0 c.2.1++(c.2.2.2.1.push x).reverse),c.2.1,c.2.2.1-1,c.2.2.2.1.push x,0,c.2.2.2.2.2+1))
   else if c.2.2.2.2.2+1>=mg then pure (.done (none,c.2.1,c.2.2.1-1,c.2.2.2.1.push x,0,c.2.2.2.2.2+1)) else pure (.yield (none,c.2.1,c.2.2.1-1,c.2.2.2.1.push x,0,c.2.2.2.2.2+1))
 | _=>pure (.done (some (a.extract 0 c.2.1++b.extract 0 c.2.2.1++c.2.2.2.1.reverse),c.2.1,c.2.2.1,c.2.2.2.1,c.2.2.2.2.1,c.2.2.2.2.2))
noncomputable def h0(a b:Array Hu)(c:Sh0):StateT SortSt Sem (ForInStep Sh0):=do
 let r <-forIn [0:a.size+b.size] ((none,c.2.1,c.2.2.1,c.2.2.2.1,0,0):Sh1) λ_ r=>h1 a b c.2.2.2.2 r
 match r.1 with
 | some v=>pure (.done (some v,r.2.1,r.2.2.1,r.2.2.2.1,c.2.2.2.2))
 | none=>do
  liftM (rule "list.sort.gallop")
  let q <-forIn [0:a.size+b.size] ((none,r.2.1,r.2.2.1,r.2.2.2.1,c.2.2.2.2+1,r.2.2.2.2.1,r.2.2.2.2.2):Sh2) λ_ q=>h2 a b q
  match q.1 with
  | some v=>pure (.done (some v,q.2.1,q.2.2.1,q.2.2.2.1,q.2.2.2.2.1))
  | none=>do
   zfA (q.2.2.2.2.1+1)
   pure (.yield (none,q.2.1,q.2.2.1,q.2.2.2.1,q.2.2.2.2.1+1))
noncomputable def mHi(a b:Array Hu):StateT SortSt Sem (Array Hu):=do
 liftM (rule "list.sort.merge-hi")
 let x <-elem' a (a.size-1)
 if (a.size-1==0)=true then pure (a.extract 0 (a.size-1)++b.extract 0 b.size++(#[x]:Array Hu).reverse)
 else if (b.size==1)=true then pure (b.extract 0 b.size++a.extract 0 (a.size-1)++(#[x]:Array Hu).reverse)
 else do
  let g <-get
  let q <-forIn [0:a.size+b.size] ((none,a.size-1,b.size,#[x],gallopOf g):Sh0) λ_ q=>h0 a b q
  match q.1 with
  | some v=>pure v
  | none=>liftM (unsupported "internal:list.sort.merge-bound" : Sem (Array Hu))
theorem zsl(a b:Array Hu):zef a b=mHi a b:=by kernel_rfl
section
variable{prog:Hi}{w:World}{A:Around}{E:Value->Shared->Prop}{s:Shared}{a₀:Array Hu}{κ:SortKind}{Y:Hu->Nat}{a b:Array Hu}
def InH(Y:Hu->Nat)(a b:Array Hu)(r0:Nat)(out:Array Hu)(na nb:Nat):Prop:=MH Y a b out na nb/\1<=na/\2<=nb/\na+nb<=r0
def ztl(Y:Hu->Nat)(a b:Array Hu)(r0:Nat)(c:Sh2):Prop:=(∃r,c.1=some r/\MR Y a b r)\/(c.1=none/\InH Y a b r0 c.2.2.2.1 c.2.1 c.2.2.1)
def zkd(Y:Hu->Nat)(a b:Array Hu)(r0:Nat)(st:SortSt)(r:ForInStep Sh2)(st':SortSt):Prop:=Gl st st'/\match r with
 | .done c=>ztl Y a b r0 c
 | .yield c=>c.1=none/\InH Y a b r0 c.2.2.2.1 c.2.1 c.2.2.1
theorem MH.pushA'{out:Array Hu}{na nb:Nat}(M:MH Y a b out na nb)(SA:Srt Y a 0 a.size)(SBb:Srt Y b 0 b.size){x:Hu}(hna:1<=na)(hx:a[na-1]? = some x)(hle:0<nb->Rk Y b (nb-1)<=Y x):MH Y a b (out.push x) (na-1) nb:=by
 obtain⟨n,rfl⟩:∃n,na=n+1:=⟨na-1,zvG hna⟩
 exact M.pushA SA SBb hx hle
theorem MH.pushB'{out:Array Hu}{na nb:Nat}(M:MH Y a b out na nb)(SA:Srt Y a 0 a.size)(SBb:Srt Y b 0 b.size){x:Hu}(hnb:1<=nb)(hx:b[nb-1]? = some x)(hle:0<na->Rk Y a (na-1)<=Y x):MH Y a b (out.push x) na (nb-1):=by
 obtain⟨n,rfl⟩:∃n,nb=n+1:=⟨nb-1,zvG hnb⟩
 exact M.pushB SA SBb hx hle
theorem zuf(M:MG prog w A s κ Y a₀ a b){st st0:SortSt}(g:Gl st0 st){out:Array Hu}{na nb mg ac bc r0:Nat}(I:InH Y a b r0 out na nb)(hle:Rk Y b (nb-1)<=Rk Y a (na-1)):wpS (model prog w) A E s (u2 a b out na nb mg ac bc) (zkd Y a b r0 st0) st:=by
 refine zw I λI0 h1 h2 h3=>?_;have hla:=I0.la;refine zj (at_some (Y:=Y) (x:=a) (i:=na-1) (zsW h1 hla)) λx hx hm hr=>?_;have I1:=I0.pushA' M.SA M.SBb h1 hx λ_=>zs8 hle hr;refine Hm (z0 hx ?_)
 by_cases he:na-1=0
 .rw[if_pos (by simpa using he)];exact Hn ⟨g,.inl (zd _ rfl (I1.done M.SA M.SBb (.inl he)))⟩
 .rw[if_neg (by simpa using he)];have I2:InH Y a b r0 (out.push x) (na-1) nb:=(zr I1 (zsS he) h2 (zA6 h3))
  split
  .exact Hn ⟨g,.inr ⟨rfl,I2⟩⟩
  .exact Hn (zp g rfl I2)
theorem zue(M:MG prog w A s κ Y a₀ a b){st st0:SortSt}(hB:SB κ a₀ st)(g:Gl st0 st){out:Array Hu}{na nb mg ac bc r0:Nat}(I:InH Y a b r0 out na nb)(hle:Rk Y a (na-1)<=Rk Y b (nb-1)):wpS (model prog w) A E s (u1 a b out na nb mg ac bc) (zkd Y a b r0 st0) st:=by
 refine zw I λI0 h1 h2 h3=>?_;have hla:=I0.la;have hlb:=I0.lb;refine zj (at_some (Y:=Y) (x:=b) (i:=nb-1) (zsZ h2 hlb)) λx hx hm hr=>?_;refine zj (at_some (Y:=Y) (x:=a) (i:=na-1) (zsW h1 hla)) λy hy hmy hry=>?_;have I1:=I0.pushB' M.SA M.SBb (zsP h2) hx λ_=>zs8 hle hr;refine Hm (z0 hx ?_)
 by_cases he:nb-1=1
 .rw[if_pos (by simpa using he)];exact Hn ⟨g,.inl (zd _ rfl (I1.firstB M.SA M.SBb he M.first))⟩
 .rw[if_neg (by simpa using he)];refine Hm (z0 hy ?_);refine Hm (kQ M.H hB (M.ha y hmy) M.hb (by exact zAh hlb) (by exact zyE h2) (λu v h4 h5 h6=>M.SBb u v (fV _) h5 (zBV hlb h6)) λp hp hlt hge=>?_);have hlt':∀i,i<p->Rk Y b i<Y y:=λi hi=>by have:=hlt i hi;unfold byd at this;simpa using this
  have hge':∀i,p<=i->i<nb-1->Y y<=Rk Y b i:=λi h4 h5=>by have:=hge i h4 h5;unfold byd at this;simpa using this
  dsimp only
  by_cases hk0:nb-1-p>0
  .rw[if_pos hk0];have I2:=MH.w2 (na:=na) M.SA M.SBb (nb-1-p) p (out:=out.push x) (by rw[show p+(nb-1-p)=nb-1 by exact zwc hk0];exact I1) λi h4 h5 _=>by have:=hge' i h4 (by exact zAX hk0 h5);exact zq3 hry this
   rw[show p+(nb-1-p)=nb-1 by exact zwc hk0] at I2
   by_cases he2:p=1
   .rw[if_pos (by simpa using he2)];exact Hn ⟨g,.inl (zd _ rfl (I2.firstB M.SA M.SBb he2 M.first))⟩
   .rw[if_neg (by simpa using he2)]
    by_cases he3:p=0
    .rw[if_pos (by simpa using he3)];exact Hn ⟨g,.inl (zd _ rfl (I2.done M.SA M.SBb (.inr he3)))⟩
    .rw[if_neg (by simpa using he3)];refine zuf M g (zr I2 h1 (zze he2 he3) (zCp h3 hk0)) ?_;have:=hlt' (p-1) (zv7 he3);exact zq5 hry this
  .rw[if_neg hk0];refine zuf M g (zr I1 h1 (by exact zvP h2 he) (zA7 h3)) ?_;have:=hlt' (nb-1-1) (by exact zzX h2 hk0);exact zq5 hry this
theorem zug(M:MG prog w A s κ Y a₀ a b){st st0:SortSt}(hB:SB κ a₀ st)(g:Gl st0 st){out:Array Hu}{na nb mg ac bc r0:Nat}(I:InH Y a b r0 out na nb):wpS (model prog w) A E s (v2 a b out na nb mg ac bc) (zkd Y a b r0 st0) st:=by
 refine zw I λI0 h1 h2 h3=>?_;have hla:=I0.la;have hlb:=I0.lb;refine zj (at_some (Y:=Y) (x:=b) (i:=nb-1) (zsZ h2 hlb)) λx hx hm hr=>?_;refine Hm (zgx ?_);have g':=g.trans (Gl.gal st mg);have hB':=hB.gl (Gl.gal st mg);refine Hm (z0 hx ?_);refine Hm (kQ M.H hB' (M.hb x hm) M.ha (zAi hla) (zqT h1) (λu v h4 h5 h6=>M.SA u v (fV _) h5 (zBW hla h6)) λp hp hlt hge=>?_);have hlt':∀i,i<p->Rk Y a i<=Y x:=λi hi=>by have:=hlt i hi;unfold byd at this;simpa using this
 have hge':∀i,p<=i->i<na->Y x<Rk Y a i:=λi h4 h5=>by have:=hge i h4 h5;unfold byd at this;simpa using this
 dsimp only
 by_cases hk0:na-p>0
 .rw[if_pos hk0];have I2:=MH.w1 (nb:=nb) M.SA M.SBb (na-p) p (out:=out) (by rw[show p+(na-p)=na by exact zwl hk0];exact I0) λi h4 h5 _=>by have:=hge' i h4 (by exact zBd hk0 h5);exact zo9 hr this
  rw[show p+(na-p)=na by exact zwl hk0] at I2
  by_cases he2:p=0
  .rw[if_pos (by simpa using he2)];exact Hn ⟨g',.inl (zd _ rfl (I2.done M.SA M.SBb (.inl he2)))⟩
  .rw[if_neg (by simpa using he2)];refine zue M hB' g' (zr I2 (zzd he2) h2 (zCw h3 hp)) ?_;have:=hlt' (p-1) (zv7 he2);exact ztb hr this
 .rw[if_neg hk0];refine zue M hB' g' (zr I0 (zsO h1) h2 (zA8 h3)) ?_;have:=hlt' (na-1) (zzW h1 hk0);exact ztb hr this
theorem zyt(M:MG prog w A s κ Y a₀ a b){st st0:SortSt}(hB:SB κ a₀ st)(g:Gl st0 st){c:Sh2}{r0:Nat}(I:InH Y a b r0 c.2.2.2.1 c.2.1 c.2.2.1):wpS (model prog w) A E s (h2 a b c) (zkd Y a b r0 st0) st:=by
 unfold h2;split
 .exact zug M hB g I
 .exact zug M hB g I
theorem zys(M:MG prog w A s κ Y a₀ a b){st:SortSt}(hB:SB κ a₀ st){c:Sh1}{mg r0 x:Nat}(I:InH Y a b (r0-x) c.2.2.2.1 c.2.1 c.2.2.1)(hx0:x<=r0){Q:ForInStep Sh1->SortSt->Prop}
  (hd:∀r,MR Y a b r->∀rest,Q (.done (some r,rest)) st)(hn:∀c':Sh1,c'.1=none->InH Y a b (r0-(x+1)) c'.2.2.2.1 c'.2.1 c'.2.2.1->Q (.done c') st/\Q (.yield c') st):wpS (model prog w) A E s (h1 a b mg c) Q st:=by
 refine zw I λI0 h1' h2' h3=>?_;have hla:=I0.la;have hlb:=I0.lb;refine zj (at_some (Y:=Y) (x:=b) (i:=c.2.2.1-1) (zsZ h2' hlb)) λx' hx hm hr=>?_;refine zj (at_some (Y:=Y) (x:=a) (i:=c.2.1-1) (zsW h1' hla)) λy hy hmy hry=>?_;refine Hm (z0 hx (Hm (z0 hy (Hm (zoB M.H hB (M.hb _ hm) (M.ha _ hmy) ?_)))));dsimp only
 by_cases hw:Y x'<Y y
 .rw[Hz hw,if_pos rfl];have I1:=I0.pushA' M.SA M.SBb h1' hy λ_=>zo9 hr hw;refine Hm (z0 hy ?_)
  by_cases he:c.2.1-1=0
  .rw[if_pos (by simpa using he)];exact Hn (hd _ (I1.done M.SA M.SBb (.inl he)) _)
  .rw[if_neg (by simpa using he)];have:=hn (none,c.2.1-1,c.2.2.1,c.2.2.2.1.push y,c.2.2.2.2.1+1,0) rfl (zr I1 (by dsimp only;exact zsS he) (by dsimp only;exact zqU h2') (by dsimp only;exact zCy h1' h3));split
   .exact Hn this.1
   .exact Hn this.2
 .rw[Hy hw,if_neg (by simp)];have I1:=I0.pushB' M.SA M.SBb (zsP h2') hx λ_=>zwQ hry hw;refine Hm (z0 hx ?_)
  by_cases he:c.2.2.1-1=1
  .rw[if_pos (by simpa using he)];exact Hn (hd _ (I1.firstB M.SA M.SBb he M.first) _)
  .rw[if_neg (by simpa using he)];have:=hn (none,c.2.1,c.2.2.1-1,c.2.2.2.1.push x',0,c.2.2.2.2.2+1) rfl (zr I1 (by dsimp only;exact zsO h1') (by dsimp only;exact zvP h2' he) (by dsimp only;exact zCB h2' h3));split
   .exact Hn this.1
   .exact Hn this.2
theorem zyr(M:MG prog w A s κ Y a₀ a b){st st0:SortSt}(hB:SB κ a₀ st)(g:Gl st0 st){c:Sh0}{r0:Nat}(I:InH Y a b r0 c.2.2.2.1 c.2.1 c.2.2.1){Q:ForInStep Sh0->SortSt->Prop}
  (hd:∀r st',Gl st0 st'->MR Y a b r->∀rest,Q (.done (some r,rest)) st')(hn:∀(c':Sh0) st',Gl st0 st'->c'.1=none->InH Y a b (r0-1) c'.2.2.2.1 c'.2.1 c'.2.2.1->Q (.yield c') st'):wpS (model prog w) A E s (h0 a b c) Q st:=by
 have hbig:1<=a.size+b.size:=by have:=I.2.1;have:=I.1.la;exact zBj (by assumption) this
 refine Hm (Ho (Hq (I:=λx c' st'=>st'=st/\c'.1=none/\InH Y a b (r0-x) c'.2.2.2.1 c'.2.1 c'.2.2.1/\x<=r0)
  (Q:=λc' st'=>st'=st/\((∃r,c'.1=some r/\MR Y a b r)\/(c'.1=none/\InH Y a b (r0-1) c'.2.2.2.1 c'.2.1 c'.2.2.1))) ?step ?fin (zr rfl rfl (by simpa using I) (fV _))) ?post)
 case fin=>
  intro c' st' hR1;refine zw hR1 λe0_0 h1 h2 h3=>?_;subst e0_0;exact⟨rfl,.inr (jz h1 h2.1 h2.2.1 h2.2.2.1 (by have:=h2.2.2.2;exact zDq hbig this))⟩
 case step=>
  intro x c' st' _ hx hR2;refine zw hR2 λe1_0 h1 h2 h3=>?_;subst e1_0;refine zys M hB h2 h3 (λr hr rest=>⟨rfl,.inl (zd r rfl hr)⟩) λc'' hc I''=>(jz ⟨rfl,.inr (jz hc I''.1 I''.2.1 I''.2.2.1 (by have:=I''.2.2.2;exact zCo this))⟩ rfl hc I'' ?_)
  have:=I''.2.2.2;have:=I''.2.1;have:=I''.2.2.1;exact zCt (by assumption) this
 case post=>
  rintro c' st' ⟨rfl,h⟩
  rcases h with⟨r,h1,h2⟩|⟨h1,h2⟩
  .rw[h1];exact Hn (hd r _ g h2 _)
  .rw[h1];refine Hm (wpS_lift (Hc ⟨rfl,?_⟩));refine Hm (Ho (Hq (I:=λx q st''=>Gl st0 st''/\SB κ a₀ st''/\q.1=none/\InH Y a b (r0-1) q.2.2.2.1 q.2.1 q.2.2.1) (Q:=λq st''=>Gl st0 st''/\ztl Y a b (r0-1) q) ?step2 ?fin2 (zr g hB rfl h2)) ?post2)
   case fin2=>
    intro q st'' hR3;refine zw hR3 λg' hB' h4 h5=>?_;exact⟨g',.inr ⟨h4,h5⟩⟩
   case step2=>
    intro x q st'' _ hx hR4;refine zw hR4 λg' hB' h4 h5=>?_;refine Ho (zyt M hB' g' h5) λr st3 hl=>?_;cases r with
    | done q'=>exact hl
    | yield q'=>exact zp hl.1 ⟨by rw[hl.1.arr,<-g'.arr];exact hB'.perm,by rw[hl.1.kind,<-g'.kind];exact hB'.kind,by rw[hl.1.failed,<-g'.failed];exact hB'.failed⟩ hl.2
   case post2=>
    rintro q st'' ⟨g',h⟩
    rcases h with⟨r,h4,h5⟩|⟨h4,h5⟩
    .rw[h4];exact Hn (hd r _ g' h5 _)
    .rw[h4];exact Hm (zgx (Hn (hn _ _ (g'.trans (Gl.gal _ _)) rfl h5)))
theorem zl4(M:MG prog w A s κ Y a₀ a b){st:SortSt}(hB:SB κ a₀ st)(h1:1<=a.size)(h2:1<=b.size){Q:Array Hu->SortSt->Prop}(h:∀r st',Gl st st'->MR Y a b r->Q r st'):wpS (model prog w) A E s (zef a b) Q st:=by
 rw[zsl];refine Hm (wpS_lift (Hc ⟨rfl,?_⟩));refine zj (at_some (Y:=Y) (x:=a) (i:=a.size-1) (zqT h1)) λx hx hm hr=>?_;have I0:MH Y a b #[] a.size b.size:=⟨fO _,fO _,by simp[fAL],by simp,by simp,by simp⟩
 have I1:MH Y a b #[x] (a.size-1) b.size:=I0.pushA' M.SA M.SBb h1 hx λh=>by rw[<-hr];exact M.last _ (zqT h2)
 refine Hm (z0 hx ?_)
 by_cases he:a.size-1=0
 .rw[if_pos (by simpa using he)];exact Hn (h _ _ (.refl _) (I1.done M.SA M.SBb (.inl he)))
 .rw[if_neg (by simpa using he)]
  by_cases he2:b.size=1
  .rw[if_pos (by simpa using he2)];exact Hn (h _ _ (.refl _) (I1.firstB M.SA M.SBb he2 M.first))
  .rw[if_neg (by simpa using he2)];refine Hm (wpS_get ?_);refine Hm (Ho (Hq (I:=λx q st'=>Gl st st'/\q.1=none/\InH Y a b (a.size+b.size-x) q.2.2.2.1 q.2.1 q.2.2.1) (Q:=λq st'=>Gl st st'/\∃r,q.1=some r/\MR Y a b r) ?step ?fin (qb (.refl _) rfl I1 (by dsimp only;exact zsS he) (by dsimp only;exact zyA h2 he2) (by dsimp only;exact zAJ))) ?post)
   case fin=>
    intro q st' hR5;refine jb hR5 λg h3 h4=>?_;exfalso;have:=h4.2.2.2;have:=h4.2.1;have:=h4.2.2.1;exact zCn (by assumption) this
   case step=>
    intro x q st' _ hx hR6;refine jb hR6 λg h3 h4=>?_;refine zyr M (hB.gl g) g h4 (λr st'' g' hr rest=>(kt g' r rfl hr)) λc' st'' g' h5 h6=>(qb g' h5 h6.1 h6.2.1 h6.2.2.1 (by have:=h6.2.2.2;exact zDn this))
   case post=>
    intro q st' hR7;refine qN hR7 λg r h3 h4=>?_;rw[h3];exact Hn (h r st' g h4)
end
noncomputable def kY(sa:Nat)(l:List Hu)(j0:Nat)(arr:Array Hu):Array Hu:=(l.zipIdx j0).foldl (λa (p:Hu×Nat)=>a.setIfInBounds (sa+p.2) p.1) arr
theorem zmA(sa:Nat)(l:List Hu):∀(j0:Nat) (arr:Array Hu),sa+j0+l.length<=arr.size->∀k,(kY sa l j0 arr)[k]? = if sa+j0<=k/\k<sa+j0+l.length then l[k-(sa+j0)]? else arr[k]?:=by
 induction l with
 | nil=>exact λj0 arr h k=>(if_neg λh=>pE.mpr h.1 h.2).symm
 | cons x l ih=>
  intro j0 arr h k;have h:sa+j0+(l.length+1)<=arr.size:=h;show (kY sa l (j0+1) (arr.setIfInBounds (sa+j0) x))[k]? = if sa+j0<=k/\k<sa+j0+(l.length+1) then _ else _
  rw[ih (j0+1) _ (by rw[fDH];exact zCf h) k,Array.getElem?_setIfInBounds]
  by_cases h1:k=sa+j0
  .rw[h1,if_neg (by exact zB9),if_pos rfl,if_pos (by exact zCg h),if_pos (by exact zB4),fC0];rfl
  .by_cases h2:sa+(j0+1)<=k/\k<sa+(j0+1)+l.length
   .rw[if_pos h2,if_pos (by exact zCa h2),show k-(sa+j0)=k-(sa+(j0+1))+1 by exact zCc h2,fAX]
   .rw[if_neg h2,if_neg (by exact zB2 h1),if_neg (by exact zDb h1 h2)]
theorem zhO(i:Nat):mergeAt' i=(do
 let s <-get
 let (some (sa,na,power),some (sb,nb,_)):=((Hp s)[i]?,(Hp s)[i+1]?)|unsupported "internal:list.sort.pending"
 set (setPending s (((Hp s).setIfInBounds i (sa,na+nb,power)).eraseIdxIfInBounds (i+1)))
 let some k <-zab false (<-elem' (Ht s) sb) (Ht s) sa na 0|return false
 let (sa,na):=(sa+k,na-k)
 if na==0 then return true
 let some nb <-zab true (<-elem' (Ht s) (sa+na-1)) (Ht s) sb nb (nb-1)|return false
 if nb==0 then return true
 let x:=(Ht s).extract sa sb
 let y:=(Ht s).extract sb (sb+nb)
 let merged <-if na<=nb then zeg x y else zef x y
 modify λs=>setArr s (merged.toList.zipIdx.foldl (λa (p,j)=>a.setIfInBounds (sa+j) p) (Ht s))
 return (failedOf (<-get)).isNone):=rfl
section
variable{prog:Hi}{w:World}{A:Around}{E:Value->Shared->Prop}{s:Shared}{a₀:Array Hu}{κ:SortKind}{Y:Hu->Nat}
theorem zqP{O:Type}{M:Model}{x:O}{Q:PUnit->O->Prop}{st:O}(h:Q ⟨⟩ x):wpS M A E s (set x:StateT O Sem PUnit) Q st:=by
 unfold wpS;rw[StateT.run_set];exact G8 ⟨rfl,h⟩
theorem zdr{x:Array Hu}{i j k:Nat}(h:i+k<j)(hj:j<=x.size):Rk Y (x.extract i j) k=Rk Y x (i+k):=by
 refine jN ?_;rw[Array.getElem?_extract,if_pos (by exact zCv h hj)]
theorem size_extract{x:Array Hu}{i j:Nat}(hj:j<=x.size):(x.extract i j).size=j-i:=by rw[Array.size_extract];exact zBx hj
structure MA(κ:SortKind)(Y:Hu->Nat)(a₀:Array Hu)(st:SortSt)(i sa na pw nb:Nat)(st':SortSt):Prop where
 sb:SB κ a₀ st'
 srt:Srt Y (Ht st') sa (sa+na+nb)
 out:Out (Ht st) (Ht st') sa (sa+na+nb)
 pend:Hp st'=((Hp st).setIfInBounds i (sa,na+nb,pw)).eraseIdxIfInBounds (i+1)
theorem zl3(H:qt prog w A s κ Y a₀){st:SortSt}(hB:SB κ a₀ st){i sa na pw nb pw':Nat}(h1:(Hp st)[i]? = some (sa,na,pw))(h2:(Hp st)[i+1]? = some (sa+na,nb,pw'))(hna:1<=na)(hnb:1<=nb)(hsz:sa+na+nb<=a₀.size)
  (S1:Srt Y (Ht st) sa (sa+na))(S2:Srt Y (Ht st) (sa+na) (sa+na+nb)){Q:Bool->SortSt->Prop}(h:∀st',MA κ Y a₀ st i sa na pw nb st'->Q true st'):wpS (model prog w) A E s (mergeAt' i) Q st:=by
 have hsize:=hB.size;have hin:∀p∈(Ht st).toList,p∈a₀.toList:=λp hp=>(fAM.mp hB.perm).mem_iff.mp hp;rw[zhO];refine Hm (wpS_get ?_);rw[h1,h2];refine Hm (zqP ?_);obtain⟨st1,hst1⟩:∃x,x=setPending st (((Hp st).setIfInBounds i (sa,na+nb,pw)).eraseIdxIfInBounds (i+1)):=⟨_,rfl⟩
 rw[<-hst1];have ea:Ht st1=Ht st:=by rw[hst1]
 have ep:Hp st1=((Hp st).setIfInBounds i (sa,na+nb,pw)).eraseIdxIfInBounds (i+1):=by rw[hst1]
 have hB1:SB κ a₀ st1:=by rw[hst1];exact⟨hB.perm,hB.kind,hB.failed⟩
 clear hst1;refine zj (at_some (Y:=Y) (x:=Ht st) (i:=sa+na) (by exact zDr hnb hsz hsize)) λx hx hmx hrx=>?_;refine Hm (z0 hx ?_);refine Hm (kQ H hB1 (hin x hmx) hin (by exact zDg hsz hsize) (by exact zsN hna) S1 λk hk hlt hge=>?_);have hlt':∀j,j<k->Rk Y (Ht st) (sa+j)<=Y x:=λj hj=>by have:=hlt j hj;unfold byd at this;simpa using this
 have hge':∀j,k<=j->j<na->Y x<Rk Y (Ht st) (sa+j):=λj h4 h5=>by have:=hge j h4 h5;unfold byd at this;simpa using this
 obtain⟨n1,rfl⟩:∃n1,na=k+n1:=⟨na-k,by exact zAx hk⟩
 simp only[fCE]
 by_cases hn0:n1=0
 .rw[if_pos (by simpa using hn0)];refine Hn (h st1 ⟨hB1,λu v h3 h4 h5=>?_,by rw[ea];exact Out.refl _ _ _,ep⟩);rw[ea]
  by_cases hv:v<sa+(k+n1)
  .exact S1 u v h3 h4 hv
  .by_cases hu:u<sa+(k+n1)
   .have q1:=hlt' (u-sa) (by exact zCx hna hn0 hu);rw[show sa+(u-sa)=u by exact zs3 h3] at q1;have q2:=S2 (sa+(k+n1)) v (fO _) (by exact zth hv) h5;exact zCY hrx q1 q2
   .exact S2 u v (by exact zth hu) h4 h5
 .rw[if_neg (by simpa using hn0)];refine zj (at_some (Y:=Y) (x:=Ht st) (i:=sa+k+(n1)-1) (by exact zDV hsize hna hsz)) λy hy hmy hry=>?_;refine Hm (z0 hy ?_);refine Hm (kQ H hB1 (hin y hmy) hin (by exact zDW hsize hsz) (by exact zqT hnb) S2 λm hm mlt mge=>?_);have mlt':∀j,j<m->Rk Y (Ht st) (sa+(k+n1)+j)<Y y:=λj hj=>by have:=mlt j hj;unfold byd at this;simpa using this
  have mge':∀j,m<=j->j<nb->Y y<=Rk Y (Ht st) (sa+(k+n1)+j):=λj h4 h5=>by have:=mge j h4 h5;unfold byd at this;simpa using this
  have hylast:Rk Y (Ht st) (sa+(k+n1)-1)=Y y:=by rw[show sa+(k+n1)-1=sa+k+(n1)-1 by exact zB5];exact hry
  dsimp only
  by_cases hm0:m=0
  .rw[if_pos (by simpa using hm0)];refine Hn (h st1 ⟨hB1,λu v h3 h4 h5=>?_,by rw[ea];exact Out.refl _ _ _,ep⟩);rw[ea]
   by_cases hv:v<sa+(k+n1)
   .exact S1 u v h3 h4 hv
   .by_cases hu:u<sa+(k+n1)
    .have q1:=S1 u (sa+(k+n1)-1) h3 (by exact zCD hu) (by exact zs7 hna);have q2:=mge' (v-(sa+(k+n1))) (by exact zDt hm0) (by exact zxf hnb h5);rw[show sa+(k+n1)+(v-(sa+(k+n1)))=v by exact zDc hv] at q2
     lia
    .exact S2 u v (by exact zth hu) h4 h5
  .rw[if_neg (by simpa using hm0)];obtain⟨xa,hxa⟩:∃q,q=(Ht st).extract (sa+k) (sa+(k+n1)):=⟨_,rfl⟩
   obtain⟨yb,hyb⟩:∃q,q=(Ht st).extract (sa+(k+n1)) (sa+(k+n1)+m):=⟨_,rfl⟩
   rw[<-hxa,<-hyb];have sza:xa.size=n1:=by rw[hxa,size_extract (by exact zxi hsize hsz)];exact zw0
   have szb:yb.size=m:=by rw[hyb,size_extract (by exact zxk hsize hsz hm)];exact zxc
   have ra:∀j,j<n1->Rk Y xa j=Rk Y (Ht st) (sa+k+j):=λj hj=>by rw[hxa];exact zdr (by exact ztf hj) (by exact zxi hsize hsz)
   have rb:∀j,j<m->Rk Y yb j=Rk Y (Ht st) (sa+(k+n1)+j):=λj hj=>by rw[hyb];exact zdr (by exact zDA hj) (by exact zxk hsize hsz hm)
   have la:xa.toList=((Ht st).toList.drop (sa+k)).take (n1):=by rw[hxa,pV,fAC,show sa+(k+n1)-(sa+k)=n1 by exact zw0]
   have lb:yb.toList=((Ht st).toList.drop (sa+(k+n1))).take m:=by rw[hyb,pV,fAC,show sa+(k+n1)+m-(sa+(k+n1))=m by exact zxc]
   have MGx:MG prog w A s κ Y a₀ xa yb:=by
    refine⟨H,λp hp=>hin p ?_,λp hp=>hin p ?_,λu v _ h4 h5=>?_,λu v _ h4 h5=>?_,λj hj=>?_,λj hj=>?_⟩
    .rw[la] at hp;exact fCT (fBW hp)
    .rw[lb] at hp;exact fCT (fBW hp)
    .rw[sza] at h5;rw[ra u (by exact zq4 h4 h5),ra v (by exact zs1 h5)];exact S1 _ _ (by exact zw2) (by exact zC5 h4) (by exact ztf h5)
    .rw[szb] at h5;rw[rb u (by exact zq4 h4 h5),rb v (by exact zs1 h5)];exact S2 _ _ (by exact zxd) (by exact zDD h4) (by exact zxj hm h5)
    .rw[sza] at hj;rw[rb 0 (by exact zzc hm0),ra j hj];have:=hge' (k+j) (by exact zj9) (by exact zs9 hj);simp only[fBL];rw[show sa+(k+j)=sa+k+j by exact zw1] at this;exact zo9 hrx this
    .rw[szb] at hj;rw[rb j hj,ra (xa.size-1) (by exact zAD hn0 sza),sza];have:=mlt' j hj;rw[show sa+k+(n1-1)=sa+(k+n1)-1 by exact zB3 hn0]
     lia
   have fin:∀r st',Gl st1 st'->MR Y xa yb r->wpS (model prog w) A E s (do
     modify λs=>setArr s (r.toList.zipIdx.foldl (λa (p,j)=>a.setIfInBounds (sa+k+j) p) (Ht s))
     return (failedOf (<-get)).isNone) Q st':=by
    intro r st' g hr0;obtain⟨hrp,hrs⟩:=hr0;obtain⟨rl,hrl⟩:∃l,l=r.toList:=⟨_,rfl⟩
    rw[<-hrl] at hrp hrs ⊢;clear hrl;refine Hm (wpS_modify (Hm (wpS_get (Hn ?_))));have hf:(failedOf (setArr st' (kY (sa+k) rl 0 (Ht st')))).isNone=true:=by
     rw[g.failed,hB1.failed];rfl
    rw[hf];have lr:rl.length=(n1)+m:=by have:=hrp.length_eq;simp only[fF,gB,sza,szb] at this;exact this
    have tl:((Ht st).toList.take (sa+k)).length=sa+k:=by simp;exact zDT hsize hsz
    have eg:∀j,(kY (sa+k) rl 0 (Ht st'))[j]? = if sa+k<=j/\j<sa+(k+n1)+m then rl[j-(sa+k)]? else (Ht st)[j]?:=λj=>by
     rw[zmA (sa+k) rl 0 (Ht st') (by rw[g.arr,ea,lr];exact zD0 hsize hsz hm) j,lr,g.arr,ea];simp only[fBL];rw[show sa+k+(n1+m)=sa+(k+n1)+m by exact zDd]
    have el:(kY (sa+k) rl 0 (Ht st')).toList=(Ht st).toList.take (sa+k)++rl++(Ht st).toList.drop (sa+(k+n1)+m):=by
     apply fBR;intro j;rw[gK,eg j]
     by_cases q1:j<sa+k
     .rw[if_neg (by exact zxg q1),gH,pC (by exact zCT tl q1),List.getElem?_take,if_pos q1,gK]
     .by_cases q2:j<sa+(k+n1)+m
      .rw[if_pos (by exact zDH q1 q2),gH,gI (by exact zCJ tl q1),pC (by exact zD1 hm0 lr tl q2),tl]
      .rw[if_neg (by exact zDG q2),gI (by rw[fF];exact zDZ lr tl q2),fC4,gK,fF,tl,lr]
       congr 1;exact zDE q2
    have hperm:(kY (sa+k) rl 0 (Ht st')).Perm (Ht st):=by
     rw[fAM,el];have e0:(Ht st).toList=(Ht st).toList.take (sa+k)++(xa.toList++yb.toList)++(Ht st).toList.drop (sa+(k+n1)+m):=by
      have e2:xa.toList++yb.toList++(Ht st).toList.drop (sa+(k+n1)+m)=(Ht st).toList.drop (sa+k):=by
       rw[la,lb];have f1:(Ht st).toList.drop (sa+(k+n1))=((Ht st).toList.drop (sa+k)).drop (n1):=by rw[List.drop_drop];congr 1;exact zw1
       have f2:(Ht st).toList.drop (sa+(k+n1)+m)=((Ht st).toList.drop (sa+(k+n1))).drop m:=by rw[List.drop_drop]
       rw[f2,gH,fA5,f1,fA5]
      rw[gH,e2,fA5]
     conv=>rhs;rw[e0]
     exact List.Perm.append_right _ (List.Perm.append_left _ hrp)
    have hsb:SB κ a₀ (setArr st' (kY (sa+k) rl 0 (Ht st'))):=⟨hperm.trans hB.perm,by show kindOf st'=κ;rw[g.kind];exact hB1.kind,by show failedOf st'=none;rw[g.failed];exact hB1.failed⟩
    refine h _ ⟨hsb,?_,λj hj=>?_,?_⟩
    .have lo_:∀u,u<sa+k->Rk Y (kY (sa+k) rl 0 (Ht st')) u=Rk Y (Ht st) u:=λu hu=>jN (by rw[eg u,if_neg (by exact zxg hu)]);have hi_:∀u,sa+(k+n1)+m<=u->Rk Y (kY (sa+k) rl 0 (Ht st')) u=Rk Y (Ht st) u:=λu hu=>jN (by rw[eg u,if_neg (by exact zDf hu)]);have mid:∀u,sa+k<=u->u<sa+(k+n1)+m->∃p,rl[u-(sa+k)]? = some p/\Rk Y (kY (sa+k) rl 0 (Ht st')) u=Y p/\((∃j,j<n1/\Y p=Rk Y (Ht st) (sa+k+j))\/∃j,j<m/\Y p=Rk Y (Ht st) (sa+(k+n1)+j)):=λu q1 q2=>by
      have hl:u-(sa+k)<rl.length:=by exact zti hm0 lr q2
      refine zt (rl[u-(sa+k)]) (fJ hl) ?_ ?_
      .unfold Rk;rw[eg u,if_pos ⟨q1,q2⟩,fJ hl]
      .have hmem:rl[u-(sa+k)]∈xa.toList++yb.toList:=hrp.mem_iff.mp (fAK hl)
       rcases fS.mp hmem with q|q
       .refine zy (j5 (Y:=Y) (a:=xa) (i:=0) (by simpa using q)) λj _ h6 _ h7=>?_;rw[sza] at h6;exact .inl (zd j h6 (by rw[<-h7,ra j h6]))
       .refine zy (j5 (Y:=Y) (a:=yb) (i:=0) (by simpa using q)) λj _ h6 _ h7=>?_;rw[szb] at h6;exact .inr (zd j h6 (by rw[<-h7,rb j h6]))
     intro u v h3 h4 h5;show Rk Y (kY (sa+k) rl 0 (Ht st')) u<=Rk Y (kY (sa+k) rl 0 (Ht st')) v
     by_cases c1:v<sa+k
     .rw[lo_ u (by exact zw8 h4 c1),lo_ v c1];exact S1 u v h3 h4 (by exact zCE c1)
     .by_cases c2:v<sa+(k+n1)+m
      .refine zj (mid v (by exact ztc c1) c2) λp hp1 hp2 hp3=>?_
       by_cases c3:u<sa+k
       .rw[lo_ u c3,hp2];have q1:=hlt' (u-sa) (by exact zwW h3 c3);rw[show sa+(u-sa)=u by exact zs3 h3] at q1
        rcases hp3 with⟨j,h6,h7⟩|⟨j,h6,h7⟩
        .rw[h7];exact S1 u _ h3 (by exact zCG c3) (by exact ztf h6)
        .have:=S2 (sa+(k+n1)) (sa+(k+n1)+j) (fO _) (by exact zxd) (by exact zxj hm h6);exact zDy hrx q1 h7 this
       .clear hp3;refine zj (mid u (by exact ztc c3) (by exact zDS h4 c2)) λp' hp1' hp2' hp3'=>?_;clear hp3';rw[hp2,hp2']
        by_cases c4:u=v
        .subst c4;rw[hp1] at hp1';cases hp1';exact fO _
        .have:=pP.mp hrs (u-(sa+k)) (v-(sa+k)) (by exact zxl hm0 lr h4 c2) (by exact zti hm0 lr c2) (by exact zCQ h4 c3 c4);rw[fJ (by (first|exact zti hm0 lr c2|exact zxl hm0 lr h4 c2))] at hp1 hp1';rw[<-Hx hp1,<-Hx hp1'];exact this
      .rw[hi_ v (by exact zxh c2)];have q2:Y y<=Rk Y (Ht st) v:=by
        have:=mge' (v-(sa+(k+n1))) (by exact zDF c2) (by exact zxf hnb h5);rwa [show sa+(k+n1)+(v-(sa+(k+n1)))=v by exact zDI c2] at this
       by_cases c3:u<sa+k
       .rw[lo_ u c3];have:=S1 u (sa+(k+n1)-1) h3 (by exact zCF c3) (by exact zs7 hna)
        lia
       .by_cases c4:u<sa+(k+n1)+m
        .refine zj (mid u (by exact ztc c3) c4) λp hp1 hp2 hp3=>?_;rw[hp2]
         rcases hp3 with⟨j,h6,h7⟩|⟨j,h6,h7⟩
         .have:=S1 (sa+k+j) (sa+(k+n1)-1) (by exact zw2) (by exact zCX h6) (by exact zs7 hna)
          lia
         .have:=mlt' j h6;exact zC3 q2 h7 this
        .rw[hi_ u (by exact zxh c4)];exact S2 u v (by exact zDJ c4) h4 h5
    .show (kY (sa+k) rl 0 (Ht st'))[j]? = (Ht st)[j]?;rw[eg j,if_neg (by exact zDY hm hj)]
    .rw[g.pend,ep]
   split
   .exact Hm (zl5 MGx hB1 (by exact zq1 hn0 sza) (by exact zq1 hm0 szb) fin)
   .exact Hm (zl4 MGx hB1 (by exact zq1 hn0 sza) (by exact zq1 hm0 szb) fin)
end
noncomputable abbrev Run:=Nat×Nat×Nat
noncomputable def RunsL(Y:Hu->Nat)(arr:Array Hu):Nat->List Run->Nat->Prop
 | lo,[],hi=>lo=hi
 | lo,p::r,hi=>p.1=lo/\1<=p.2.1/\Srt Y arr lo (lo+p.2.1)/\RunsL Y arr (lo+p.2.1) r hi
section
variable{Y:Hu->Nat}{arr arr':Array Hu}
theorem RunsL.len{l:List Run}:∀{lo hi:Nat},RunsL Y arr lo l hi->lo+l.length<=hi:=by
 induction l with
 | nil=>exact λh=>pF h
 | cons p r ih=>exact λh=>(zCz h.2.1 (ih h.2.2.2):_)
theorem Srt.out{a b x y:Nat}(h:Srt Y arr a b)(o:Out arr arr' x y)(d:b<=x\/y<=a):Srt Y arr' a b:=λi j h1 h2 h3=>by
 have e1:Rk Y arr' i=Rk Y arr i:=jN (o i (zDO d h1 h2 h3));have e2:Rk Y arr' j=Rk Y arr j:=jN (o j (zDP d h1 h2 h3));rw[e1,e2];exact h i j h1 h2 h3
theorem RunsL.out{x y:Nat}(o:Out arr arr' x y){l:List Run}:∀{lo hi:Nat},RunsL Y arr lo l hi->(hi<=x\/y<=lo)->RunsL Y arr' lo l hi:=by
 induction l with
 | nil=>exact λh _=>h
 | cons p r ih=>exact λh d=>⟨h.1,h.2.1,h.2.2.1.out o (zDQ d (RunsL.len h.2.2.2)),ih h.2.2.2 (zDm d)⟩
theorem RunsL.split{l1 l2:List Run}:∀{lo hi:Nat},RunsL Y arr lo (l1++l2) hi->∃m,RunsL Y arr lo l1 m/\RunsL Y arr m l2 hi:=by
 induction l1 with
 | nil=>exact λh=>⟨_,rfl,h⟩
 | cons p r ih=>exact λh=>(ih h.2.2.2).imp λm q=>⟨⟨h.1,h.2.1,h.2.2.1,q.1⟩,q.2⟩
theorem RunsL.join{l1 l2:List Run}:∀{lo m hi:Nat},RunsL Y arr lo l1 m->RunsL Y arr m l2 hi->RunsL Y arr lo (l1++l2) hi:=by
 induction l1 with
 | nil=>exact λh h'=>(show _=_ from h)▸h'
 | cons p r ih=>exact λh h'=>⟨h.1,h.2.1,h.2.2.1,ih h.2.2.2 h'⟩
theorem RunsL.congr{l:List Run}:∀{l':List Run} {lo hi:Nat},l.map (λp=>(p.1,p.2.1))=l'.map (λp=>(p.1,p.2.1))->RunsL Y arr lo l hi->RunsL Y arr lo l' hi:=by
 induction l with
 | nil=>
  intro l' lo hi e h;cases l' with
  | nil=>exact h
  | cons=>exact nomatch e
 | cons p r ih=>
  intro l' lo hi e h;cases l' with
  | nil=>exact nomatch e
  | cons p' r'=>
   have e':=List.cons.inj e;have e3:(p.1,p.2.1)=(p'.1,p'.2.1):=e'.1;have e1:=(Prod.mk.inj e3).1;have e2:=(Prod.mk.inj e3).2;exact⟨e1▸h.1,e2▸h.2.1,e2▸h.2.2.1,e2▸ih e'.2 h.2.2.2⟩
theorem zoY{J:Type}{l:List J}{i:Nat}{x y:J}(h1:l[i]? = some x)(h2:l[i+1]? = some y):l=l.take i++x::y::l.drop (i+2):=by
 obtain⟨a1,b1⟩:=fX.mp h1;obtain⟨a2,b2⟩:=fX.mp h2;have e1:l.drop i=x::l.drop (i+1):=by rw[pB a1,b1]
 have e2:l.drop (i+1)=y::l.drop (i+2):=by rw[pB a2,b2]
 rw[<-e2,<-e1,fA5]
theorem zqI{J:Type}{l:List J}{i:Nat}{x y z:J}(h1:l[i]? = some x)(h2:l[i+1]? = some y):(l.set i z).eraseIdx (i+1)=l.take i++z::l.drop (i+2):=by
 have e:=zoY h1 h2;have hi:i<l.length:=(fX.mp h1).1;have hl:(l.take i).length=i:=by simp;exact zwq hi
 conv=>lhs;rw[e]
 rw[List.set_append_right _ _ (by exact zwu hl),hl,fC0,List.set_cons_zero,List.eraseIdx_append_of_length_le (by exact zz6 hl),hl,show i+1-i=1 by exact zzk]
 rfl
end
section
variable{prog:Hi}{w:World}{A:Around}{E:Value->Shared->Prop}{s:Shared}{a₀:Array Hu}{κ:SortKind}{Y:Hu->Nat}
theorem zoC(H:qt prog w A s κ Y a₀){st:SortSt}(hB:SB κ a₀ st){i hi:Nat}(hR:RunsL Y (Ht st) 0 (Hp st).toList hi)(hh:hi<=a₀.size)(hi1:i+1<(Hp st).size){Q:Bool->SortSt->Prop}
  (h:∀st',SB κ a₀ st'->RunsL Y (Ht st') 0 (Hp st').toList hi->(Hp st').size+1=(Hp st).size->Out (Ht st) (Ht st') 0 hi->Q true st'):wpS (model prog w) A E s (mergeAt' i) Q st:=by
 obtain⟨⟨sa,na,pw⟩,h1⟩:∃p,(Hp st)[i]? = some p:=⟨_,getElem?_pos _ i (by exact zgI hi1)⟩
 obtain⟨⟨sb,nb,pw'⟩,h2⟩:∃p,(Hp st)[i+1]? = some p:=⟨_,getElem?_pos _ (i+1) hi1⟩
 have h1':(Hp st).toList[i]? = some (sa,na,pw):=by rw[gK];exact h1
 have h2':(Hp st).toList[i+1]? = some (sb,nb,pw'):=by rw[gK];exact h2
 have e:=zoY h1' h2';rw[e] at hR;refine zg6 hR.split λm R1 q0 q1 q2 p0 p1 p2 R2=>?_;simp only at q0 q1 q2 p0 p1 p2 R2;subst q0;subst p0;have hle:=R2.len;refine zl3 H hB h1 h2 q1 p1 (zDX hh hle) q2 p2 λst' M=>?_;have et:(Hp st').toList=(Hp st).toList.take i++(sa,na+nb,pw)::(Hp st).toList.drop (i+2):=by
  rw[M.pend,Array.toList_eraseIdxIfInBounds,Array.toList_setIfInBounds,zqI h1' h2']
 refine h st' M.sb ?_ ?_ (M.out.wide (fV _) (zDe hle))
 .rw[et];refine(R1.out M.out (.inl (fO _))).join (zr rfl (by simp only;exact zsX q1) (by rw[<-fAU];exact M.srt) ?_);rw[<-fAU];exact R2.out M.out (.inr (fO _))
 .have l1:=congrArg List.length et;have l2:=congrArg List.length e;simp only[gB,fF,fH] at l1 l2;exact zCI l1 l2
end
noncomputable def zxJ(sz pw:Nat):StateT SortSt Sem (ForInStep (Option Unit×Unit)):=do
 let g <-get
 match (if (Hp g).size>1 then (Hp g)[(Hp g).size-2]? else none) with
 | some (_,_,older)=>
  if older<=pw then pure (.done (none,()))
  else do
   let b <-mergeAt' ((Hp g).size-2)
   if (!b)=true then pure (.done (some (),())) else pure (.yield (none,()))
 | _=>pure (.done (none,()))
noncomputable def tR(sz lo n:Nat):StateT SortSt Sem (ForInStep (Option Unit×Nat)):=do
 let g <-get
 match (Hp g).back? with
 | some (s1,n1,_)=>do
  let r <-forIn [0:sz] ((none,()):Option Unit×Unit) λ_ _=>zxJ sz (power' sz (2*s1+n1) (2*s1+n1+n1+n) sz)
  match r.1 with
  | some r=>pure (.done (some r,lo))
  | none=>do
   modify λs=>setPending s ((Hp s).modify ((Hp s).size-1) λ(st,len,_)=>(st,len,power' sz (2*s1+n1) (2*s1+n1+n1+n) sz))
   modify λs=>setPending s ((Hp s).push (lo,n,0))
   pure (.yield (none,lo+n))
 | _=>do
  modify λs=>setPending s ((Hp s).push (lo,n,0))
  pure (.yield (none,lo+n))
noncomputable def oL(sz mr:Nat)(c:Option Unit×Nat):StateT SortSt Sem (ForInStep (Option Unit×Nat)):=
 if c.2>=sz then pure (.done (none,c.2))
 else do
  let x <-countRun' c.2 (sz-c.2)
  match x with
  | some zaK=>
   if zaK<mr then do
    liftM (rule "list.sort.binary-insertion")
    let b <-binarySort' c.2 (min (sz-c.2) mr) zaK
    if (!b)=true then pure (.done (some (),c.2)) else tR sz c.2 (min (sz-c.2) mr)
   else tR sz c.2 zaK
  | _=>pure (.done (some (),c.2))
noncomputable def fL:StateT SortSt Sem (ForInStep (Option Unit×Unit)):=do
 let g <-get
 if (Hp g).size<=1 then pure (.done (none,()))
 else do
  let b <-mergeAt' (if Option.any (λx=>decide (x<(Hp g)[(Hp g).size-2+1]?.elim 0 λx=>x.snd.fst)) (if (Hp g).size-2>0 then Option.map (λx=>x.snd.fst) (Hp g)[(Hp g).size-2-1]? else none)=true then (Hp g).size-2-1 else (Hp g).size-2)
  if (!b)=true then pure (.done (some (),())) else pure (.yield (none,()))
noncomputable def ztZ:StateT SortSt Sem Unit:=do
 let g <-get
 let r <-forIn [0:(Ht g).size] ((none,0):Option Unit×Nat) λ_ c=>oL (Ht g).size (minRun' (Ht g).size (Ht g).size 0) c
 match r.1 with
 | some r=>pure r
 | none=>do
  let q <-forIn [0:(Ht g).size] ((none,()):Option Unit×Unit) λ_ _=>fL
  match q.1 with
  | some r=>pure r
  | none=>pure ()
theorem zn0:sortRuns'=ztZ:=by kernel_rfl
noncomputable def zkR:Nat:=1000000
section
variable{prog:Hi}{w:World}{A:Around}{E:Value->Shared->Prop}{s:Shared}{a₀:Array Hu}{κ:SortKind}{Y:Hu->Nat}
theorem zud(H:qt prog w A s κ Y a₀){st:SortSt}(hB:SB κ a₀ st){lo n:Nat}(hR:RunsL Y (Ht st) 0 (Hp st).toList lo)(hn:1<=n)(hs:Srt Y (Ht st) lo (lo+n))(hl:lo+n<=a₀.size){Q:ForInStep (Option Unit×Nat)->SortSt->Prop}
  (h:∀st',SB κ a₀ st'->RunsL Y (Ht st') 0 (Hp st').toList (lo+n)->Q (.yield (none,lo+n)) st'):wpS (model prog w) A E s (tR a₀.size lo n) Q st:=by
 have fin:∀(st':SortSt),SB κ a₀ st'->RunsL Y (Ht st') 0 (Hp st').toList lo->Srt Y (Ht st') lo (lo+n)->Q (.yield (none,lo+n)) (setPending st' ((Hp st').push (lo,n,0))):=λst' hB' hR' hs'=>by
  refine h _ ⟨hB'.perm,hB'.kind,hB'.failed⟩ ?_;rw[gE];exact hR'.join (zr rfl hn hs' rfl)
 refine Hm (wpS_get ?_);cases hb:(Hp st).back? with
 | none=>exact Hm (wpS_modify (Hn (fin st hB hR hs)))
 | some p=>
  obtain⟨s1,n1,pw⟩:=p;generalize power' a₀.size (2*s1+n1) (2*s1+n1+n1+n) a₀.size=pw';refine Hm (Ho (Hq (I:=λx c st'=>c=(none,())/\SB κ a₀ st'/\RunsL Y (Ht st') 0 (Hp st').toList lo/\Srt Y (Ht st') lo (lo+n))
   (Q:=λc st'=>c=(none,())/\SB κ a₀ st'/\RunsL Y (Ht st') 0 (Hp st').toList lo/\Srt Y (Ht st') lo (lo+n)) ?step (λc st' hh=>hh) (zr rfl hB hR hs)) ?post)
  case step=>
   intro x c st' _ hx hR1;refine zw hR1 λe4_0 hB' hR' hs'=>?_;subst e4_0;refine Hm (wpS_get ?_)
   by_cases hsz:(Hp st').size>1
   .rw[if_pos hsz];obtain⟨⟨u,v,older⟩,hq⟩:∃p,(Hp st')[(Hp st').size-2]? = some p:=⟨_,getElem?_pos _ _ (by exact zy0 hsz)⟩
    rw[hq];dsimp only;split
    .exact Hn (zr rfl hB' hR' hs')
    .refine Hm (zoC H hB' hR' (zBb hl) (zyZ hsz) λst'' hB'' hR'' _ ho=>?_);exact Hn (zr rfl hB'' hR'' (hs'.out ho (.inr (fO _))))
   .rw[if_neg hsz];exact Hn (zr rfl hB' hR' hs')
  case post=>
   intro c st' hR2;refine zw hR2 λe5_0 hB' hR' hs'=>?_;subst e5_0;refine Hm (wpS_modify (Hm (wpS_modify (Hn ?_))));refine fin (setPending st' _) ⟨hB'.perm,hB'.kind,hB'.failed⟩ ?_ hs';refine RunsL.congr ?_ hR';rw[Array.toList_modify];apply fBR;intro j;simp only[fA8,List.getElem?_modify];split<;>cases (Hp st').toList[j]?<;>rfl
theorem zev(H:qt prog w A s κ Y a₀){st:SortSt}(hB:SB κ a₀ st)(hp:Hp st = #[])(h2:2<=a₀.size)(hmx:a₀.size<=zkR){Q:Unit->SortSt->Prop}
  (h:∀st',SB κ a₀ st'->Srt Y (Ht st') 0 a₀.size->Q () st'):wpS (model prog w) A E s sortRuns' Q st:=by
 rw[zn0];refine Hm (wpS_get ?_);simp only[hB.size];have hmr:1<=minRun' a₀.size a₀.size 0:=by
  have gen:∀f n r,1<=n->1<=minRun' f n r:=by
   intro f
   induction f with
   | zero=>intro n r hn;exact zsX hn
   | succ f ih=>
    intro n r hn;rw[minRun'_succ];split
    .exact zsX hn
    .exact ih _ _ (by lia)
  exact gen _ _ _ (zsP h2)
 generalize minRun' a₀.size a₀.size 0=mr at hmr;refine Hm (Ho (Hq (I:=λx c st'=>∃lo,c=(none,lo)/\SB κ a₀ st'/\RunsL Y (Ht st') 0 (Hp st').toList lo/\lo<=a₀.size/\min x a₀.size<=lo)
  (Q:=λc st'=>c=(none,a₀.size)/\SB κ a₀ st'/\RunsL Y (Ht st') 0 (Hp st').toList a₀.size) ?step ?fin (zdW 0 rfl hB (by rw[hp];rfl) (fV _) zzp)) ?post)
 case fin=>
  intro c st' hR3;refine zg5 hR3 λlo e6_1 hB' hR' hl hx=>?_;subst e6_1;have:lo=a₀.size:=zAf hl hx;subst this;exact zp rfl hB' hR'
 case step=>
  intro x c st' _ hx hR4;refine zg5 hR4 λlo e7_1 hB' hR' hl hxl=>?_;subst e7_1;unfold oL;dsimp only
  by_cases hge:lo>=a₀.size
  .rw[if_pos hge];have:lo=a₀.size:=zs2 hl hge;subst this;exact Hn (zp rfl hB' hR')
  .rw[if_neg hge];refine Hm (zjG H (zAC hge) (zAE hge) hB' λm st2 R=>?_);dsimp only;have hR2:RunsL Y (Ht st2) 0 (Hp st2).toList lo:=by rw[R.pend];exact hR'.out R.out (.inl (fO _))
   have hm:=R.le;have hm1:=R.m1;split
   .rename_i hlt
    refine Hm (wpS_lift (Hc ⟨rfl,?_⟩));refine Hm (zgw H (n:=min (a₀.size-lo) mr) (ztg hm hm1) (zw7 hmr hm hm1) (zCM hm hlt) R.sb R.srt λst3 R3=>?_);simp only[fB6,gC,if_false];have hR3:RunsL Y (Ht st3) 0 (Hp st3).toList lo:=by rw[R3.pend];exact hR2.out R3.out (.inl (fO _))
    exact zud H R3.sb hR3 (zw7 hmr hm hm1) R3.srt (ztg hm hm1) λst4 hB4 hR4=>(zdW _ rfl hB4 hR4 (ztg hm hm1) (zCA hmr hxl))
   .exact zud H R.sb hR2 hm1 R.srt (zwV hm hm1) λst4 hB4 hR4=>(zdW _ rfl hB4 hR4 (zwV hm hm1) (zCj hxl hm1))
 case post=>
  intro c st' hR5;refine jb hR5 λe8_0 hB' hR'=>?_;subst e8_0;refine Hm (Ho (Hq (I:=λx c st''=>c=(none,())/\SB κ a₀ st''/\RunsL Y (Ht st'') 0 (Hp st'').toList a₀.size/\(Hp st'').size<=max 1 (a₀.size-x))
   (Q:=λc st''=>c=(none,())/\SB κ a₀ st''/\RunsL Y (Ht st'') 0 (Hp st'').toList a₀.size/\(Hp st'').size<=1) ?step2 ?fin2 (zr rfl hB' hR' (by have:=hR'.len;simp at this;lia))) ?post2)
  case fin2=>
   intro c st'' hR6;refine zw hR6 λe9_0 hB2 hR2 hsz=>?_;subst e9_0;exact zr rfl hB2 hR2 (zAa hsz)
  case step2=>
   intro x c st'' _ hx hR7;refine zw hR7 λe10_0 hB2 hR2 hsz=>?_;subst e10_0;refine Hm (wpS_get ?_)
   by_cases h1:(Hp st'').size<=1
   .rw[if_pos h1];exact Hn (zr rfl hB2 hR2 h1)
   .rw[if_neg h1];refine Hm (zoC H hB2 hR2 (fO _) ?_ λst3 hB3 hR3 hs3 _=>?_)
    .have gen:∀(c:Bool) (n:Nat),2<=n->(if c=true then n-2-1 else n-2)+1<n:=λc n hn=>by cases c<;>simp<;>(first|exact zyF hn|exact zyD hn)
     exact gen _ _ (zzf h1)
    .exact Hn (zr rfl hB3 hR3 (zC6 hsz hs3))
  case post2=>
   intro c st'' hR8;refine zw hR8 λe11_0 hB2 hR2 hsz=>?_;subst e11_0;refine Hn (h st'' hB2 ?_);have hl:(Hp st'').toList.length<=1:=by simpa using hsz
   generalize (Hp st'').toList=l at hR2 hl
   match l,hR2,hl with
   | [],hR2,_=>have:0=a₀.size:=hR2;lia
   | [p],⟨_,_,h3,h4⟩,_=>
    have:0+p.2.1=a₀.size:=h4;rw[this] at h3;exact h3
   | _::_::_,_,hl=>simp at hl
end
theorem zgK{vs:List Value}{out:Array Hu}(h:out.Perm (vs.toArray.zip vs.toArray)):(out.map (·.2)).toList.Perm vs/\∀p∈out.toList,p.1=p.2:=by
 have h':=fAM.mp h;have e:(vs.toArray.zip vs.toArray).toList=vs.zip vs:=by simp
 rw[e] at h';have z:∀(l:List Value),(l.zip l).map (·.2)=l/\∀p∈l.zip l,p.1=p.2:=by
  intro l
  induction l with
  | nil=>exact⟨rfl,λp hp=>by simp at hp⟩
  | cons x l ih=>exact⟨by simp[ih.1],λp hp=>by
    rcases fM.mp hp with e|hp
    .rw[e]
    .exact ih.2 p hp⟩
 refine⟨?_,λp hp=>(z vs).2 p (h'.mem_iff.mp hp)⟩;have:=h'.map (·.2);rw[(z vs).1] at this
 simpa using this
section
variable{prog:Hi}{w:World}{A:Around}{E:Value->Shared->Prop}{s:Shared}
theorem zet{a:Addr}{vs:List Value}{n:Nat}{P:PySem.Fin->Shared->Prop}(Y:Value->Nat)(ho:s.heap.get? a=some (Hv "list" vs.toArray n))(hlen:vs.length<=1000000)(hmx:vs.length<=zkR)
  (hk:∀h':Heap,(∀b o,b≠a->s.heap.get? b=some o->h'.get? b=some o)->2<=vs.length->∃κ,(∀(Q:SortKind->Shared->Prop),Q κ { s with heap:=h' }->wpAny (model prog w) A (keyKind' vs.toArray) Q E { s with heap:=h' })/\
   qt prog w A { s with heap:=h' } κ (λp=>Y p.1) (vs.toArray.zip vs.toArray))
  (h:∀(out:List Value) c (h3:Heap),out.Perm vs->out.Pairwise (λx y=>Y x<=Y y)->h3.get? a=some (Hv "list" out.toArray c)->(∀b o,b≠a->s.heap.get? b=some o->h3.get? b=some o)->P (.done (.ret .none)) { s with heap:=h3 }) :
  wpAny (model prog w) A (Builtin.«list.sort» ⟨[.ref a],[]⟩) P E s:=by
 obtain⟨e1,ho1⟩:∃e1,(s.heap.update a (Obj.mapSeq λ_=>(#[]:Array Value))).get? a=some (Hv "list" #[] e1):=⟨_,Hw ho λ_=>#[]⟩
 have s1:=Heap.SameBut.update s.heap a (Obj.mapSeq λ_=>(#[]:Array Value));obtain⟨h2,hh2⟩:∃x,x=((s.heap.update a (Obj.mapSeq λ_=>(#[]:Array Value))).push (Hv "tuple" vs.toArray 0)).push (Hv "list" #[] 0):=⟨_,rfl⟩
 have keep2:∀b o,b≠a->s.heap.get? b=some o->h2.get? b=some o:=λb o hb e=>by
  rw[hh2];exact Heap.get?_push_of_some _ (Heap.get?_push_of_some _ ((s1.2 b hb).trans e))
 have ho2:h2.get? a=some (Hv "list" #[] e1):=by rw[hh2];exact Heap.get?_push_of_some _ (Heap.get?_push_of_some _ ho1)
 rw[list_sort_plain];refine G7 (Hs ho rfl ?_);refine G7 (Hr ho rfl ?_ (by rw[fZ,Hb];exact ziG hlen) (fV _));refine G7 (seqEpoch_at ho1 rfl ?_);refine G7 (wpAny_newTuple ?_ (by show vs.length<=_;rw[Hb];exact ziG hlen));refine G7 (Hf ?_ (fV _));refine Ha ?_;rw[<-hh2];have rest:∀st':SortSt,(Ht st').Perm (vs.toArray.zip vs.toArray)->failedOf st'=none->(Ht st').toList.Pairwise (λx y=>Y x.1<=Y y.1)->wpAny (model prog w) A (do
   let touched:=(<-seqEpoch a) != e1
   Builtin.List.listUpdate (.ref a) λ_=>(Ht st').map (·.2)
   if let some e:=failedOf st' then rule "list.sort.comparison-raised";throw e
   if touched then rule "list.sort.modified";raiseError "ValueError" "list modified during sort"
   ret .none) P E { s with heap:=h2 }:=by
  intro st' hp hf hs;obtain⟨z1,z2⟩:=zgK hp;have hl:=z1.length_eq;obtain⟨c2,hc2⟩:∃c2,(h2.update a (Obj.mapSeq λ_=>(Ht st').map (·.2))).get? a=some (Hv "list" ((Ht st').map (·.2)) c2):=⟨_,Hw ho2 λ_=>(Ht st').map (·.2)⟩
  have s2:=Heap.SameBut.update h2 a (Obj.mapSeq λ_=>(Ht st').map (·.2));refine G7 (seqEpoch_at ho2 rfl ?_);refine G7 (Hr ho2 rfl ?_ (fV _) (by
   have:((Ht st').map (·.2)).size=vs.length:=by rw[<-hl];simp
   rw[this,Hb];exact zy5 hlen))
  rw[hf];simp only[bne_self_eq_false,gC,if_false];refine G8 (h ((Ht st').map (·.2)).toList c2 _ z1 ?_ (by rw[hc2]) λb o hb e=>(s2.2 b hb).trans (keep2 b o hb e));rw[fDL,fAD];exact hs.imp_of_mem λ{x y} hx hy hxy=>by rw[<-z2 x hx,<-z2 y hy];exact hxy
 by_cases hn:vs.length<2
 .have hn2:vs.toArray.size<2:=by rw[fZ];exact hn
  rw[if_pos hn2,if_pos hn2];refine G7 (G8 ?_);refine G7 ?_;refine G8 ?_;refine rest (SortSt.mk' general' (vs.toArray.zip vs.toArray) #[] 7 none) (.refl _) rfl ?_;have:(vs.toArray.zip vs.toArray).toList.length<2:=by simp;exact zyI hn
  generalize (vs.toArray.zip vs.toArray).toList=l at this
  match l,this with
  | [],_=>exact .nil
  | [x],_=>exact fAY _ _
  | _::_::_,h=>simp only[fH] at h;lia
 .have hn2:¬vs.toArray.size<2:=by rw[fZ];exact hn
  rw[if_neg hn2,if_neg hn2];refine zb (hk h2 keep2 (zv6 hn)) λκ hq H=>?_;refine G7 (hq _ ?_);have hB:SB κ (vs.toArray.zip vs.toArray) (SortSt.mk' κ (vs.toArray.zip vs.toArray) #[] 7 none):=⟨.refl _,rfl,rfl⟩
  have run:=zev (E:=E) (Q:=λ_ st'=>(Ht st').Perm (vs.toArray.zip vs.toArray)/\failedOf st'=none/\(Ht st').toList.Pairwise (λx y=>Y x.1<=Y y.1)) H hB rfl (by simp;exact zv6 hn) (by simpa using hmx) λst' hB' hs=>(zp hB'.perm hB'.failed (by
   have:=hB'.size;exact jS (Y:=λp=>Y p.1) (by rw[this];exact hs)))
  refine G7 (G9 run (λr s' hr=>?_) λ_ _ e=>e);obtain⟨⟨⟩,st'⟩:=r;refine zw hr λe3_0 hp hf hs=>?_;subst e3_0;exact rest st' hp hf hs
theorem zlG{b:Bool}{t:Bool}{Q:Bool->Shared->Prop}(xs:List PyData):∀(ys:List PyData) {vs ws:List Value} {as bs:List Addr} {fin:Bool} {i:Nat},ReadsAll s.heap vs xs as->ReadsAll s.heap ws ys bs->PyData.canLayAll0 xs=true->PyData.canLayAll0 ys=true->A.units+2*PyData.depthAll xs+10<cLine->
  fin=decide (xs.length<ys.length)->(i=0->b=true->∀x y,xs.head? = some x->ys.head? = some y->(∃u v,x = .int u/\y = .int v)\/∃u v,x = .str u/\y = .str v)->zbz xs ys=some t->Q t s->KatLex prog w A b fin Q (vs.zip ws) i s:=by
 induction xs with
 | nil=>
  intro ys vs ws as bs fin i rx ry ha hb hu hf hi e q;rw[jK rx];have e1:t=fin:=Hx (e.symm.trans (show zbz [] ys=some fin by rw[hf];cases ys<;>rfl));exact kat_nil (e1▸q)
 | cons x xs ih=>
  intro ys vs ws as bs fin i rx ry ha hb hu hf hi e q;refine qK (ju rx) λ_ _ _ _ z1 h1 h2=>?_;rw[z1];cases ys with
  | nil=>rw[jK ry];exact kat_nil ((Hx e).symm.trans hf.symm▸q)
  | cons y ys=>
   refine qK (ju ry) λ_ _ _ _ z1 k1 k2=>?_;rw[z1];have ha:=(gX _ _).mp ha;have hb:=(gX _ _).mp hb;have hu:A.units+2*max x.depth (PyData.depthAll xs)+10<cLine:=hu;have heq:=eqAt_reads x y A s _ _ _ _ h1 k1 ha.1 hb.1 (zxe hu);rw[qH] at e;refine kat_cons (heq prog w _ _ ?_);cases hE:PyData.eqv x y with
   | true=>
    rw[hE] at e;exact kat_yes (ih ys h2 k2 ha.2 hb.2 (zw4 hu) (hf.trans (decide_eq_decide.mpr fCS)) (λh0=>nomatch h0) e q)
   | false=>
    rw[hE] at e;refine kat_no ?_;cases hbi:(b&&i==0) with
    | false=>
     rw[oneLt'_eq];exact G7 (zhE x y h1 k1 ha.1 hb.1 (zw3 hu) e prog w _ _ (wpAny_truthy_bool q))
    | true=>
     have hbi:=(gX _ _).mp hbi
     rcases hi (beq_iff_eq.mp hbi.2) hbi.1 x y rfl rfl with h|h
     .refine jq h λu u' f1 f2=>?_;subst f1 f2;refine jo (zba h1) λ_ z1=>jo (zba k1) λ_ z2=>?_;rw[z1,z2];exact oneLt_int ((Hx e).symm▸q)
     .refine jq h λu u' f1 f2=>?_;subst f1 f2;refine jo (zbb h1) λ_ z1=>jo (zbb k1) λ_ z2=>?_;rw[z1,z2];exact oneLt_str ((Hx e).symm▸q)
end
theorem zx1{a b:Nat}(h:a<b↔b<a):a=b:=fAH (pE.mp λl=>Nat.lt_asymm l (h.mpr l)) (pE.mp λl=>Nat.lt_asymm l (h.mp l))
theorem zbE{O:AHeap}{h:Heap}{xs:List AV}{v:Value}{vs:List Value}(r:RepVs O h xs (v::vs)):∃x xs',xs=x::xs'/\RepV O h x v/\RepVs O h xs' vs:=by
 cases r with
 | cons a r=>exact zI _ _ rfl a r
theorem RepVs.perm{O:AHeap}{h:Heap}{vs ws:List Value}(p:ws.Perm vs):∀{xs},RepVs O h xs vs->∃ys,ys.Perm xs/\RepVs O h ys ws:=by
 induction p with
 | nil=>intro xs r;exact⟨xs,.refl _,r⟩
 | cons v p ih=>
  intro xs r;obtain⟨x,xs',rfl,a,r⟩:=zbE r;obtain⟨ys,h1,h2⟩:=ih r;exact⟨x::ys,.cons x h1,.cons a h2⟩
 | swap v w l=>
  intro xs r;obtain⟨x,xs',rfl,a,r⟩:=zbE r;obtain⟨y,xs'',rfl,b,r⟩:=zbE r;exact⟨y::x::xs'',.swap ..,.cons b (.cons a r)⟩
 | trans p q ih1 ih2=>
  intro xs r;refine zb (ih2 r) λys h1 h2=>?_;refine zb (ih1 h2) λzs h3 h4=>?_;exact zd zs (h3.trans h1) h4
theorem RepVs.pair{O:AHeap}{h:Heap}{Y:AV->Nat}{YV:Value->Nat}{ys:List AV}:∀{out:List Value},RepVs O h ys out->(∀y∈ys,∀v,RepV O h y v->YV v=Y y)->out.Pairwise (λx y=>YV x<=YV y)->ys.Pairwise (λx y=>Y x<=Y y):=by
 induction ys with
 | nil=>intro out _ _ _;exact .nil
 | cons x ys ih=>
  intro out r hρ hp;obtain⟨v,vs,rfl,a,r⟩:=RepVs.wF r;obtain⟨h1,h2⟩:=gJ.mp hp;refine gJ.mpr ⟨λy hy=>?_,ih r (λy hy=>hρ y (fA _ hy)) h2⟩;obtain⟨i,hi⟩:=fAR.mp hy;obtain⟨w,hw,rw_⟩:=r.get hi;have:=h1 w (pT hw);rw[hρ x fB v a,hρ y (fA _ hy) w rw_] at this;exact this
theorem zdZ{O:AHeap}{h:Heap}{T:Value}{M:Model}{xs:List AV}:∀{vs:List Value},RepVs O h xs vs->(∀x∈xs,∃y r,x = .tup (y::r)/\∀v,RepV O h y v->Looks M h (typeOf v) T)->∃fs,KatTups h vs fs/\fs.length=vs.length/\∀v∈fs,Looks M h (typeOf v) T:=by
 induction xs with
 | nil=>intro vs r _;obtain rfl:=RepVs.wG r;exact⟨[],.nil,rfl,λv hv=>nomatch hv⟩
 | cons x xs ih=>
  intro vs r hx;cases r with
  | @cons _ _ v vs a r=>
  refine zj (ih r λx hx'=>hx x (fA _ hx')) λfs h1 h2 h3=>?_;refine jq (hx x fB) λy ys e11_2 hl=>?_;subst e11_2;refine zh (RepV.wH a) λt ws e12_2 hlen ht rs=>?_;subst e12_2;refine jp ht λo ho hc n hd=>?_;refine zl (RepVs.wF rs) λu us e14_2 ru rus=>?_;subst e14_2;exact zt (u::fs) (.cons ho hc hd rfl h1) (by simp[h2]) (λw hw=>by
   rcases fM.mp hw with e|hw
   .subst e;exact hl w ru
   .exact h3 w hw)
theorem zcb{h:Heap}{ds:List PyData}:∀{z:List Value} {as:List Addr},ReadsAll h z ds as->z.length=ds.length:=by
 induction ds with
 | nil=>exact λr=>by rw[jK r];rfl
 | cons d ds ih=>exact λr=>qK (ju r) λ_ _ _ _ z _ r=>by rw[z];exact congrArg (· + 1) (ih r)
theorem zkW{X:Cx}{O:AHeap}{s:Shared}{A:Around}{x y:AV}{v1 v2:Value}{t:Bool}{Q:Bool->Shared->Prop}{E:Value->Shared->Prop}(a:At X O s)(hu:A.units+2000<cLine)(rx:RepV O s.heap x v1)(ry:RepV O s.heap y v2)
  (hx:∃i r,x = .tup (.int i::r))(hy:∃i r,y = .tup (.int i::r))(hlt:zdq (vis O) x y t)(hQ:Q t s):wpAny X.M A (keyLt' (tuples' true) v1 v2) Q E s:=by
 refine zq hlt λda db ra rb oa ob el=>?_;obtain⟨⟨as1,q1⟩,c1⟩:=ra.reads a rx;obtain⟨⟨as2,q2⟩,c2⟩:=rb.reads a ry;refine zY hx λi r e3_2=>?_;subst e3_2;refine zY hy λj r' e4_2=>?_;subst e4_2;refine zb (Rd.wH ra) λds e5_1 rda=>?_;subst e5_1;refine zb (Rd.wH rb) λes e6_1 rdb=>?_;subst e6_1;cases q1 with
 | tuple ho1 hc1 hd1 hr1=>
  cases q2 with
  | tuple ho2 hc2 hd2 hr2=>
   have c3:=oa;simp only[PyData.canLay0] at c1 c2;simp only[PyData.depth] at c3;simp only[zcO,znX,zd5] at el;refine kat_lt ho1 hd1 ho2 hd2 (zlG ds es hr1 hr2 c1 c2 (zA4 hu c3) (by rw[<-zcb hr1,<-zcb hr2];simp) (λ_ _ u v hu hv=>?_) el hQ);refine zl (RdL.wF rda) λd1 ds1 z1 g1 g2=>?_;subst z1;refine zl (RdL.wF rdb) λd2 ds2 z2 g3 g4=>?_;subst z2;exact .inl (zbw _ _ ((Hx hu).symm.trans (Rd.wC g1)) ((Hx hv).symm.trans (Rd.wC g3)))
theorem zkt{X:Cx}{Ov O:AHeap}{s:Shared}{A:Around}{x y:AV}{v1 v2:Value}{t:Bool}{Q:Bool->Shared->Prop}{E:Value->Shared->Prop}{h:Heap}(rx:RepV O h x v1)(ry:RepV O h y v2)(hx:∃i,x = .int i)(hy:∃i,y = .int i)(hlt:zdq Ov x y t)(hQ:Q t s):wpAny X.M A (keyLt' oneType' v1 v2) Q E s:=by
 obtain⟨i,ei⟩:=hx;obtain⟨j,ej⟩:=hy;subst ei ej;refine zq hlt λda db ra rb oa ob el=>?_;obtain rfl:=Rd.wC ra;obtain rfl:=Rd.wC rb;simp only[zcO,znX,zd5,Option.some.injEq] at el;rw[<-el] at hQ;obtain⟨_,rfl⟩:=RepV.wC rx;obtain⟨_,rfl⟩:=RepV.wC ry;rw[keyLt'_oneType];exact oneLt_int hQ
open Classical in
theorem zfw{X:Cx}{O:AHeap}{s:Shared}(a:At X O s){xs:List AV}{key:AV->AV}{Y:AV->Nat}(hlt:∀x∈xs,∀y∈xs,zdq (vis O) (key x) (key y) (decide (Y x<Y y))):∃YV:Value->Nat,∀x∈xs,∀v,RepV O s.heap (key x) v->YV v=Y x:=by
 have uni:∀x∈xs,∀y∈xs,∀v,RepV O s.heap (key x) v->RepV O s.heap (key y) v->Y x=Y y:=λx hx y hy v rx ry=>by
  refine zq (hlt x hx y hy) λa1 b1 h1 h2 k1 k2 e1=>?_;refine zq (hlt y hy x hx) λa2 b2 h3 h4 k3 k4 e2=>?_;obtain⟨⟨_,q1⟩,cl⟩:=h1.reads a rx;obtain⟨⟨_,q2⟩,_⟩:=h2.reads a ry;obtain⟨⟨_,q3⟩,_⟩:=h3.reads a ry;obtain⟨⟨_,q4⟩,_⟩:=h4.reads a rx;have d1:=PySem.SeqAt.Reads.unique _ _ _ _ _ cl q1 q2;have d2:=PySem.SeqAt.Reads.unique _ _ _ _ _ cl q1 q3;have d3:=PySem.SeqAt.Reads.unique _ _ _ _ _ cl q1 q4;subst d1;subst d2;subst d3;rw[e1] at e2;exact zx1 (decide_eq_decide.mp (Hx e2))
 refine⟨λv=>if h:∃x,x∈xs/\RepV O s.heap (key x) v then Y (choose h) else 0,λx hx v rx=>?_⟩;have h:∃x,x∈xs/\RepV O s.heap (key x) v:=(zd x hx rx)
 simp only[dif_pos h];exact uni _ (choose_spec h).1 x hx v (choose_spec h).2 rx
theorem zgE{X:Cx}:jt X (.builtin "sorted") zb7:=λd A O s rr as vs Q E L a r q=>by
 refine zb (jT q) λx0 e15_1 q=>?_;subst e15_1;refine zb (zf q) λxs hx0 q=>?_;unfold zh8 at q
 .refine zb (qD r) λv e17_1 rv=>?_;subst e17_1;refine zj q λY hkd hlt q=>?_;refine zq (a.isList (zK hx0) rv) λp vs e19_2 hp hl rs hm=>?_;subst e19_2;have hlen:=rs.length;have room:=L.room;obtain⟨YV,hρV⟩:=zfw (key:=λx=>x) a hlt;refine zD (Calls.call_function_entry kind_sorted plain_sorted entry_sorted (args_sorted1 _) ?_);unfold Builtin.«sorted»;refine G7 (m:=checkCount "sorted" 1 1 _) (G8 ?_);refine G7 (collect_list hl ?_ (by rw[Hb];exact zeZ hm hlen));refine G7 (Hf ?_ (by rw[Hb];exact zeZ hm hlen));have hsz:((s.heap.push (Hv "list" #[] 0)).update s.heap.objs.size (Obj.mapSeq (·++vs.toArray))).objs.size=s.heap.objs.size+1:=by
   rw[Heap.size_update,size_push']
  obtain⟨h1,hh1⟩:∃x,x=((s.heap.push (Hv "list" #[] 0)).update s.heap.objs.size (Obj.mapSeq (·++vs.toArray))).push (Hv "list" vs.toArray 0):=⟨_,rfl⟩
  have hoL:h1.get? (s.heap.objs.size+1)=some (Hv "list" vs.toArray 0):=by
   rw[hh1,<-hsz];exact Heap.get?_push_size _ rfl
  have keep:∀b o,s.heap.get? b=some o->h1.get? b=some o:=λb o q=>by
   have hlt:b<s.heap.objs.size:=Heap.lt_size q;rw[hh1,Heap.get?_push_ne _ _ _ (by rw[hsz];exact gS (fCI hlt)),Heap.get?_update_ne _ _ _ _ (gS hlt),Heap.get?_push_ne _ _ _ (gS hlt)];exact q
  show wpAny _ _ _ _ _ { s with heap:=((s.heap.push (Hv "list" #[] 0)).update s.heap.objs.size (Obj.mapSeq (·++vs.toArray))).push (Hv "list" vs.toArray 0) };rw[hsz,<-hh1];have keep':∀h':Heap,(∀b o,b≠s.heap.objs.size+1->h1.get? b=some o->h'.get? b=some o)->∀b o,s.heap.get? b=some o->h'.get? b=some o:=λh' hk b o e=>by
   have hlt:b<s.heap.objs.size:=ltA e;exact hk b o (gS (fCI hlt)) (keep b o e)
  refine G7 (Ha (He slot_list_sort (zd _ hoL rfl) entry_list_sort ?body (args_list_sort _)))
  case body=>
   refine zet (s:={ s with heap:=h1 }) YV hoL (zwD hm hlen) (by rw[<-hlen];exact hm) (λh' hk' h2=>?_) λout c h3 hperm hsrt ho3 hk3=>?_
   .have kp:=keep' h' hk';have kv:KeepV O s.heap O h':=.ext kp;have a':At X O { s with heap:=h' }:=a.grown s.toks kp;have rs':=rs.mono kv;have mz:∀z,z∈(vs.toArray.zip vs.toArray).toList->z.1∈vs:=λz hz=>by
     have:z∈vs.zip vs:=by simpa using hz
     exact(fB9 this).1
    rcases hkd with hkd|hki
    case inr=>
     refine zd oneType' (λQ' hq=>?_) (λp' q' hp' hq' Q' E' hQ=>?_)
     .refine kas_kind (s:={ s with heap:=h' }) (vs:=vs) (T:=.type "int") (zqU h2) (λv hv=>?_) (by decide) (by decide) hq;refine zb (rs'.mem v hv) λx hx rx=>?_;obtain⟨i,rfl⟩:=hki x hx;obtain⟨_,rfl⟩:=RepV.wC rx;exact .now
     .refine zb (rs.mem p'.1 (mz p' hp')) λx hx rx=>?_;refine zb (rs.mem q'.1 (mz q' hq')) λy hy ry=>?_;exact zkt rx ry (hki x hx) (hki y hy) (hlt x hx y hy) (by rw[<-hρV x hx _ rx,<-hρV y hy _ ry];exact hQ)
    have hT3:∀x∈xs,∃y r,x = .tup (y::r)/\∀v,RepV O h' y v->Looks X.M h' (typeOf v) (.type "int"):=λx hx=>by
     refine zY (hkd x hx) λi r e36_2=>?_;subst e36_2;refine zbw _ r rfl (λv rv=>?_);obtain⟨_,rfl⟩:=RepV.wC rv;exact .now
    refine zj (zdZ (M:=X.M) rs' hT3) λfs f1 f2 f3=>?_;refine zd (tuples' true) (λQ' hq=>?_) (λp' q' hp' hq' Q' E' hQ=>?_)
    .refine kat_kind (s:={ s with heap:=h' }) f1 (zzY h2 f2) f3 (by decide) ?_;exact hq
    .refine zb (rs.mem p'.1 (mz p' hp')) λx hx rx=>?_;refine zb (rs.mem q'.1 (mz q' hq')) λy hy ry=>?_;have hQ:Q' (decide (Y x<Y y)) { s with heap:=h' }:=by rw[<-hρV x hx _ rx,<-hρV y hy _ ry];exact hQ
     have rx':=rx.mono kv;have ry':=ry.mono kv;exact zkW a' (by rw[Around.in1_units,Around.in1_units];exact zEX room) rx' ry' (hkd x hx) (hkd y hy) (hlt x hx y hy) hQ
   .have kp:=keep' h3 hk3;have kv:KeepV O s.heap O h3:=.ext kp;refine zb (rs.perm hperm) λys hy1 hy2=>?_;have hys:ys.Pairwise λx y=>Y x<=Y y:=hy2.pair (λy hy v rv=>hρV y (hy1.mem_iff.mp hy) v rv) hsrt;refine zd _ rfl (G8 (zd _ rfl (λhsz'=>?_)));exact kL (t:=s.toks) a kp (fA7 _) ho3 (hy2.mono kv) (by rw[hy1.length_eq];exact hm) hsz' (q ys hy1 hys)
noncomputable def jY(led:Bool)(m mv:Nat)(P:List Nat):SetTable:={ mask:=m,place:=P.toArray,dummies:=#[],finger:=0,led:=led,moves:=mv,plain:=true }
noncomputable abbrev qy(P:List Nat):Prop:=P.Pairwise (· < ·)
theorem zxF{a:Array Nat}{j lo hi:Nat}:SetTable.below.go a j 0 lo hi=lo:=rfl
theorem zxG{a:Array Nat}{j f lo hi:Nat}:SetTable.below.go a j (f+1) lo hi=if lo<hi then if a.getD ((lo+hi)/2) j<j then SetTable.below.go a j f ((lo+hi)/2+1) hi else SetTable.below.go a j f lo ((lo+hi)/2) else lo:=rfl
def zxB(P:List Nat)(j lo hi r:Nat):Prop:=lo<=r/\r<=hi/\(∀i x,i<r->P[i]? = some x->x<j)/\(∀i x,r<=i->P[i]? = some x->j<=x)
theorem zmS{P:List Nat}(hP:qy P){j:Nat}:∀(fuel lo hi:Nat),lo<=hi->hi<=P.length->hi-lo<=fuel->(∀i x,i<lo->P[i]? = some x->x<j)->(∀i x,hi<=i->P[i]? = some x->j<=x)->zxB P j lo hi (SetTable.below.go P.toArray j fuel lo hi):=by
 intro fuel
 induction fuel with
 | zero=>
  intro lo hi h1 h2 h3 h4 h5;have e:lo=hi:=by exact zvk h1 h3
  rw[zxF];exact⟨fO _,h1,h4,λi x h=>h5 i x (e▸h)⟩
 | succ fuel ih=>
  intro lo hi h1 h2 h3 h4 h5;rw[zxG]
  by_cases hl:lo<hi
  .rw[if_pos hl];have m1:lo<=(lo+hi)/2:=(Nat.le_div_iff_mul_le (by decide)).mpr (by rw[Nat.mul_two];exact fA0 h1 lo);have m2:(lo+hi)/2<hi:=(Nat.div_lt_iff_lt_mul (by decide)).mpr (by rw[Nat.mul_two];exact Nat.add_lt_add_right hl hi);generalize (lo+hi)/2=m at m1 m2;have hm:m<P.length:=gP m2 h2;have hg:P.toArray.getD m j=P[m]:=by simp[Array.getD,hm]
   rw[hg];have mono:∀i k x y,i<=k->P[i]? = some x->P[k]? = some y->x<=y:=λi k x y hi' e e'=>by
    obtain⟨h1,rfl⟩:=fX.mp e;obtain⟨h2,rfl⟩:=fX.mp e'
    rcases Nat.lt_or_eq_of_le hi' with q|q
    .exact fAB (pP.mp hP i k h1 h2 q)
    .subst q;exact fO _
   have em:=fJ hm
   by_cases hc:P[m]<j
   .rw[if_pos hc];obtain⟨a,b,c,d⟩:=ih (m+1) hi m2 h2 (Nat.sub_le_of_le_add (fE (Nat.sub_le_iff_le_add.mp h3) (by rw[fAU,Nat.add_comm m 1];exact fA0 (fA0 m1 1) fuel))) (λi x h e=>fC5 (mono i m x _ (fBS h) e em) hc) h5;exact⟨fE m1 (Nat.le_of_succ_le a),b,c,d⟩
   .rw[if_neg hc];obtain⟨a,b,c,d⟩:=ih lo m m1 (fAB hm) (fBS (gP (Nat.sub_lt_sub_right m1 m2) h3)) h4 (λi x h e=>fE (pE.mp hc) (mono m i _ x h em e));exact⟨a,fE b (fAB m2),c,d⟩
  .rw[if_neg hl];have e:lo=hi:=by exact zvl h1 hl
   exact⟨fO _,h1,h4,λi x h=>h5 i x (e▸h)⟩
theorem zbs{P:List Nat}(hP:qy P)(j:Nat):SetTable.below P.toArray j<=P.length/\(∀i x,i<SetTable.below P.toArray j->P[i]? = some x->x<j)/\(∀i x,SetTable.below P.toArray j<=i->P[i]? = some x->j<=x):=by
 unfold SetTable.below;rw[fZ];obtain⟨_,b,c,d⟩:=zmS hP (j:=j) P.length 0 P.length (fV _) (fO _) (by exact zu5) (λi x h=>absurd h (fBM _)) (λi x h e=>absurd (fX.mp e).1 (pE.mpr h));exact⟨b,c,d⟩
noncomputable def zhn(P:List Nat)(j:Nat):List Nat:=P.take (SetTable.below P.toArray j)++j::P.drop (SetTable.below P.toArray j)
theorem zhp{P:List Nat}(hP:qy P){j:Nat}(hj:j∉P):qy (zhn P j):=by
 obtain⟨h1,h2,h3⟩:=zbs hP j;unfold zhn;have lo:∀x∈P.take (SetTable.below P.toArray j),x<j:=λx hx=>by
  obtain⟨i,hi,e⟩:=fB5 hx;rw[List.getElem_take] at e;rw[fAT] at hi;exact h2 i x (by exact zvx hi) (by rw[<-e];exact fJ _)
 have hi:∀x∈P.drop (SetTable.below P.toArray j),j<x:=λx hx=>by
  obtain⟨i,hi,e⟩:=fB5 hx;rw[List.getElem_drop] at e;rw[fBF] at hi;have:=h3 (SetTable.below P.toArray j+i) x (pR _ _) (by rw[<-e];exact fJ _);exact fCB this λq=>hj (q▸fCT hx)
 refine gF.mpr ⟨hP.sublist (List.take_sublist ..),gJ.mpr ⟨λx hx=>hi x hx,hP.sublist (List.drop_sublist ..)⟩,λx hx y hy=>?_⟩
 rcases fM.mp hy with rfl|hy
 .exact lo x hx
 .exact gD (lo x hx) (hi y hy)
theorem zho(P:List Nat)(j:Nat):(zhn P j).length=P.length+1:=by
 unfold zhn;rw[fF,fH,fAT,fBF];exact zvs
theorem zt7{led:Bool}{m mv:Nat}{P:List Nat}(j:Nat):(jY led m mv P).put j=(jY led m mv (zhn P j),SetTable.below P.toArray j):=by
 unfold SetTable.put jY zhn;dsimp only;have:SetTable.has #[] j=false:=rfl;rw[this];simp only[gC,if_false,Prod.mk.injEq,and_true,SetTable.mk.injEq,true_and];refine Array.ext' ?_;rw[SetTable.toList_insertAt]
theorem zsI{led:Bool}{m mv:Nat}{P:List Nat}(hP:qy P)(j:Nat):(jY led m mv P).slot j = .empty/\j∉P\/∃i,(jY led m mv P).slot j = .live i/\j∈P:=by
 obtain⟨h1,h2,h3⟩:=zbs hP j;unfold SetTable.slot jY;dsimp only;rw[fAS]
 by_cases h:P[SetTable.below P.toArray j]? = some j
 .rw[if_pos (by rw[h];exact beq_self_eq_true _)];exact .inr ⟨_,rfl,pT h⟩
 .rw[if_neg (by simpa using h),show SetTable.has #[] j=false from rfl];refine .inl ⟨rfl,λhm=>?_⟩;obtain⟨i,hi,e⟩:=fB5 hm;have e:P[i]? = some j:=by rw[<-e];exact fJ _
  have a:¬i<SetTable.below P.toArray j:=λq=>fBN _ (h2 i j q e);have b:i≠SetTable.below P.toArray j:=λq=>h (q▸e);have c:SetTable.below P.toArray j<P.length:=by exact zvF hi a
  have d:=pP.mp hP _ i c hi (by exact zvq a b);have f:=h3 _ _ (fO _) (fJ c);rw[fJ hi] at e;cases e;exact zvf d f
noncomputable def adv(m:Nat)(p:SetTable.Probe):SetTable.Probe:=SetTable.advance (jY true m 0 []) p
theorem zrM{led:Bool}{m mv:Nat}{P:List Nat}(p:SetTable.Probe):(jY led m mv P).advance p=adv m p:=rfl
theorem zk1{m:Nat}(p:SetTable.Probe):(adv m p).dummy=p.dummy:=by
 unfold adv SetTable.advance;split<;>rfl
noncomputable def nth(m:Nat)(p:SetTable.Probe):Nat->SetTable.Probe
 | 0=>p
 | k+1=>nth m (adv m p) k
theorem zyn{t:SetTable}{f:Nat->Int}{h:Int}{n:Nat}{p:SetTable.Probe}:SetTable.probe.go t f h (n+1) p=match t.slot p.j with|.empty=>some (.empty p.j p.dummy)|.dummy=>SetTable.probe.go t f h n (t.advance { p with dummy:=some p.j })|.live i=>if f i==h then some (.candidate p.j i (t.advance p)) else SetTable.probe.go t f h n (t.advance p):=rfl
theorem zoq{led:Bool}{m mv:Nat}{P:List Nat}(hP:qy P){h:Int}:∀(fuel:Nat) (p:SetTable.Probe),p.dummy=none->(∃k,k<fuel/\(nth m p k).j∉P)->∃j,SetTable.probe.go (jY led m mv P) (λ_=>h+1) h fuel p=some (.empty j none)/\j∉P:=by
 intro fuel
 induction fuel with
 | zero=>exact λp _ ⟨k,hk,_⟩=>absurd hk (fBM _)
 | succ fuel ih=>
  intro p hd ⟨k,hk,hf⟩;rw[zyn]
  rcases zsI (led:=led) (m:=m) (mv:=mv) hP p.j with⟨e,hn⟩|⟨i,e,hm⟩
  .rw[e,hd];exact⟨_,rfl,hn⟩
  .rw[e];dsimp only;rw[if_neg (by simp only[beq_iff_eq];exact zuD),zrM];cases k with
   | zero=>exact absurd hm hf
   | succ k=>exact ih (adv m p) (by rw[zk1];exact hd) ⟨k,by exact zwf hk,hf⟩
theorem zgp(m:Nat)(a b:Nat)(p:SetTable.Probe):nth m p (a+b)=nth m (nth m p a) b:=by
 induction a generalizing p with
 | zero=>rw[fAO];rfl
 | succ a ih=>rw[Nat.succ_add];exact ih _
noncomputable def run(m i q:Nat):SetTable.Probe:={ j:=i,more:=SetTable.runEnd m i-i,i:=i,perturb:=q,dummy:=none }
theorem zkH{m:Nat}:∀(r j i q:Nat) (d:Option Nat),(∀k,k<=r->(nth m ⟨j,r,i,q,d⟩ k).j=j+k)/\nth m ⟨j,r,i,q,d⟩ (r+1)={ run m (SetTable.leap m i q).1 (SetTable.leap m i q).2 with dummy:=d }:=by
 intro r
 induction r with
 | zero=>
  intro j i q d;refine⟨λk hk=>?_,rfl⟩;obtain rfl:=fDC.mp hk
  rfl
 | succ r ih=>
  intro j i q d;have e:adv m ⟨j,r+1,i,q,d⟩=⟨j+1,r,i,q,d⟩:=rfl;refine⟨λk hk=>?_,?_⟩
  .cases k with
   | zero=>rfl
   | succ k=>
    show (nth m (adv m ⟨j,r+1,i,q,d⟩) k).j=_;rw[e,(ih (j+1) i q d).1 k (fBJ hk)];exact zmE
  .show nth m (adv m ⟨j,r+1,i,q,d⟩) (r+1)=_;rw[e];exact(ih (j+1) i q d).2
noncomputable def zaS(m:Nat):Nat->Nat×Nat->Nat×Nat
 | 0,x=>x
 | n+1,x=>zaS m n (SetTable.leap m x.1 x.2)
theorem zl2(m i:Nat):SetTable.runEnd m i-i<=9:=by unfold SetTable.runEnd;split<;>(first|exact zu3|exact zu6)
theorem zrr{m:Nat}:∀(n:Nat) (x:Nat×Nat),∃k,k<=10*n/\nth m (run m x.1 x.2) k=run m (zaS m n x).1 (zaS m n x).2:=by
 intro n
 induction n with
 | zero=>exact λx=>⟨0,fO _,rfl⟩
 | succ n ih=>
  intro x;obtain⟨k,hk,e⟩:=ih (SetTable.leap m x.1 x.2);refine⟨SetTable.runEnd m x.1-x.1+1+k,by have:=zl2 m x.1;exact zvT hk this,?_⟩;rw[zgp,show run m x.1 x.2=⟨x.1,SetTable.runEnd m x.1-x.1,x.1,x.2,none⟩ from rfl,(zkH ..).2];exact e
theorem zlE(m a b:Nat)(x:Nat×Nat):zaS m (a+b) x=zaS m b (zaS m a x):=by
 induction a generalizing x with
 | zero=>rw[fAO];rfl
 | succ a ih=>rw[Nat.succ_add];exact ih _
theorem zrj{m i q:Nat}(hq:q<32768):∃i',i'<m+1/\zaS m 3 (i,q)=(i',0):=by
 have e:q/32/32/32=0:=by rw[Nat.div_div_eq_div_mul,Nat.div_div_eq_div_mul];exact Nat.div_eq_of_lt hq
 have go:∀i q,SetTable.leap m i q=((i*5+1+q/32)%(m+1),q/32):=λ_ _=>rfl;refine⟨((((i*5+1+q/32)%(m+1))*5+1+q/32/32)%(m+1)*5+1+q/32/32/32)%(m+1),Nat.mod_lt _ (fCH m),?_⟩;show SetTable.leap m (SetTable.leap m (SetTable.leap m i q).1 (SetTable.leap m i q).2).1 (SetTable.leap m (SetTable.leap m i q).1 (SetTable.leap m i q).2).2=_;rw[go,go,go];dsimp only;rw[e]
theorem zym:∀i<8,∀e<8,∃n,n<8/\zaS 7 n (i,0)=(e,0):=by decide +kernel
theorem zrp:∀i<32,∃n,n<32/\zaS 31 n (i,0)=(0,0):=by decide +kernel
theorem pig:∀(N:Nat) (P:List Nat),(∀e,e<N->e∈P)->N<=P.length:=by
 intro N
 induction N with
 | zero=>exact λP _=>fV _
 | succ N ih=>
  intro P h;have hN:=h N (fCP N);have:=ih (P.erase N) λe he=>(fCU (gS he)).mpr (h e (fCI he));rw[fB8 hN] at this;have:=fA2 hN;exact ztj (by assumption) this
theorem znu{N:Nat}{P:List Nat}(h:P.length<N):∃e,e<N/\e∉P:=by
 refine Classical.byContradiction λq=>?_;exact absurd (pig N P λe he=>Classical.byContradiction λhn=>q ⟨e,he,hn⟩) (fDY.mpr h)
theorem zsL{m i q:Nat}{P:List Nat}(hm:m=7\/m=31)(hl:P.length<=7)(hq:q<32768):∃k,k<10*SetTable.turns m/\(nth m (run m i q) k).j∉P:=by
 obtain⟨i',hi,e3⟩:=zrj (m:=m) (i:=i) hq;have go:∀n e,zaS m n (i',0)=(e,0)->n<=31->∃k,k<=340/\(m=7->n<=7->k<=100)/\nth m (run m i q) k=run m e 0:=λn e he hn=>by
  obtain⟨a,ha,h1⟩:=zrr (m:=m) 3 (i,q);obtain⟨b,hb,h2⟩:=zrr (m:=m) n (i',0);rw[e3] at h1;rw[he] at h2;exact⟨a+b,by exact zvK hn ha hb,λ_ _=>by exact zvz ha hb (by assumption),by rw[zgp,h1,h2]⟩
 rcases hm with rfl|rfl
 .obtain⟨e,he,hn⟩:=znu (N:=8) (pD hl);obtain⟨n,hn',en⟩:=zym i' hi e he;obtain⟨k,_,hk,ek⟩:=go n e en (by exact zuZ hn');refine⟨k,by have:=hk rfl (by exact zu0 hn');unfold SetTable.turns;exact zvn hn' hk,?_⟩;rw[ek];exact hn
 .obtain⟨e,he,hn⟩:=znu (N:=10) (show P.length<10 by exact zu1 hl);obtain⟨n,hn',en⟩:=zrp i' hi;obtain⟨k,hk,_,ek⟩:=go n 0 en (by exact zuV hn');refine⟨k+e,by unfold SetTable.turns;exact zvm he hk,?_⟩;rw[zgp,ek,show run 31 0 0=⟨0,9,0,0,none⟩ from rfl,(zkH ..).1 e (by exact zuT he),fAO];exact hn
theorem zdv{h:Int}(h0:0<=h)(h1:h<32768):SetTable.bits h<32768:=by
 unfold SetTable.bits;rw[Int.emod_eq_of_lt h0 (fC1 h1 (by decide))];exact(Int.toNat_lt h0).mpr h1
theorem zrZ{led:Bool}{m mv:Nat}{P:List Nat}(hP:qy P)(hm:m=7\/m=31)(hl:P.length<=7){h:Int}(h0:0<=h)(h1:h<32768):∃j,(jY led m mv P).freeSlot h=some (j,false)/\j∉P:=by
 obtain⟨j,e,hj⟩:=zoq (led:=led) (mv:=mv) (h:=h) hP (10*SetTable.turns m) (run m (SetTable.bits h%(m+1)) (SetTable.bits h)) rfl (zsL hm hl (zdv h0 h1));refine⟨j,?_,hj⟩;unfold SetTable.freeSlot SetTable.probe;have e:SetTable.probe.go (jY led m mv P) (λ_=>h+1) h (10*SetTable.turns (jY led m mv P).mask) ((jY led m mv P).probeStart h)=some (.empty j none):=e;rw[e];rfl
noncomputable abbrev zaA:=Array (Option Nat)
noncomputable def atO(o:zaA)(j:Nat):Option (Nat×Nat):=(o.getD j none).map (j,·)
noncomputable def jk(o:zaA):List (Nat×Nat):=(List.range 32).filterMap (atO o)
structure Ow(o:zaA)(k:Nat):Prop where
 size:o.size=32
 perm:((jk o).map (·.2)).Perm (List.range k)
theorem zhC(o:zaA):qy ((jk o).map (·.1)):=by
 unfold jk;refine fAD.mpr (List.Pairwise.filterMap (R:=(· < ·)) _ (λa b hab x hx y hy=>?_) List.pairwise_lt_range);unfold atO at hx hy;obtain⟨_,_,rfl⟩:=pY.mp hx;obtain⟨_,_,rfl⟩:=pY.mp hy;exact hab
theorem ztF{o:zaA}{n i q:Nat}:SetTable.layClean.free 31 o (n+1) i q=match (List.range (SetTable.runEnd 31 i+1-i)).find? λk=>(o.getD (i+k) (some 0)).isNone with|some k=>some (i+k)|none=>SetTable.layClean.free 31 o n (SetTable.leap 31 i q).1 (SetTable.leap 31 i q).2:=rfl
theorem zno{o:zaA}:∀(n fuel:Nat) (x:Nat×Nat),n<fuel->(zaS 31 n x).1=0->(∃k,k<10/\(o.getD k (some 0)).isNone=true)->∃j,SetTable.layClean.free 31 o fuel x.1 x.2=some j/\(o.getD j (some 0)).isNone=true:=by
 intro n
 induction n with
 | zero=>
  intro fuel x hf hx ⟨k,hk,ho⟩;obtain⟨fuel,rfl⟩:∃f,fuel=f+1:=⟨fuel-1,by exact zuS hf⟩
  have hx:x.1=0:=hx;rw[ztF];rw[hx];cases h:(List.range (SetTable.runEnd 31 0+1-0)).find? λk=>(o.getD (0+k) (some 0)).isNone with
  | some j=>exact⟨_,rfl,fDS (p:=λk=>(o.getD (0+k) (some 0)).isNone) h⟩
  | none=>
   have:=List.find?_eq_none.mp h k (gV.mpr hk);rw[fAO] at this;exact absurd ho this
 | succ n ih=>
  intro fuel x hf hx hk;obtain⟨fuel,rfl⟩:∃f,fuel=f+1:=⟨fuel-1,by exact zva hf⟩
  rw[ztF];cases h:(List.range (SetTable.runEnd 31 x.1+1-x.1)).find? λk=>(o.getD (x.1+k) (some 0)).isNone with
  | some j=>exact⟨_,rfl,fDS (p:=λk=>(o.getD (x.1+k) (some 0)).isNone) h⟩
  | none=>exact ih fuel (SetTable.leap 31 x.1 x.2) (by exact zwf hf) hx hk
theorem zqg{o:zaA}{k:Nat}(h:Ow o k)(hk:k<=8){h':Int}(h0:0<=h')(h1:h'<32768):∃j,SetTable.layClean.free 31 o (SetTable.turns 31) (SetTable.bits h'%32) (SetTable.bits h')=some j/\j<32/\o.getD j none=none:=by
 have e10:∃k,k<10/\(o.getD k (some 0)).isNone=true:=by
  refine Classical.byContradiction λq=>?_;have hl:((jk o).map (·.1)).length=k:=by rw[fC,<-fC (f:=λx:Nat×Nat=>x.2),h.perm.length_eq,gY]
  have:=pig 10 ((jk o).map (·.1)) λe he=>by
   have hs:e<o.size:=by rw[h.size];exact zrC he
   have hv:(o.getD e (some 0)).isNone≠true:=λhn=>q ⟨e,he,hn⟩;have e1:o.getD e (some 0)=o.getD e none:=by simp[Array.getD,hs]
   rw[e1] at hv;cases ho:o.getD e none with
   | none=>rw[ho] at hv;exact absurd rfl hv
   | some v=>exact fG.mpr ⟨(e,v),pU.mpr ⟨e,gV.mpr (by exact zrC he),by unfold atO;rw[ho];rfl⟩,rfl⟩
  exact zvi hk hl this
 obtain⟨i',hi,e3⟩:=zrj (m:=31) (i:=SetTable.bits h'%32) (zdv h0 h1);obtain⟨n,hn,en⟩:=zrp i' hi;obtain⟨j,e,hj⟩:=zno (o:=o) (3+n) (SetTable.turns 31) (SetTable.bits h'%32,SetTable.bits h') (by unfold SetTable.turns;exact zuU hn) (by rw[zlE,e3,en]) e10;have hlt:j<o.size:=Classical.byContradiction λq=>by
  have:o.getD j (some 0)=some 0:=by simp[Array.getD,q]
  rw[this] at hj;cases hj
 refine⟨j,e,by rw[<-h.size];exact hlt,?_⟩;have e1:o.getD j (some 0)=o.getD j none:=by simp[Array.getD,hlt]
 rw[e1] at hj;exact Option.isNone_iff_eq_none.mp hj
theorem zhc{J β:Type}{f g:J->Option β}{l:List J}(h:∀x∈l,f x=g x):l.filterMap f=l.filterMap g:=by
 induction l with
 | nil=>rfl
 | cons x l ih=>rw[fA1,fA1,h x fB,ih λy hy=>h y (fA _ hy)]
theorem zsw{o:zaA}{k j:Nat}(h:Ow o k)(hj:j<32)(hn:o.getD j none=none):Ow (o.setIfInBounds j (some k)) (k+1):=by
 refine⟨by rw[fDH];exact h.size,?_⟩;have hs:j<o.size:=by rw[h.size];exact hj
 have oth:∀i,i≠j->atO (o.setIfInBounds j (some k)) i=atO o i:=λi hi=>by
  unfold atO;rw[fBT,fBT,Array.getElem?_setIfInBounds_ne (Ne.symm hi)]
 have here:atO (o.setIfInBounds j (some k)) j=some (j,k):=by
  unfold atO;rw[fBT,Array.getElem?_setIfInBounds_self_of_lt hs];rfl
 have old:atO o j=none:=by unfold atO;rw[hn];rfl
 obtain⟨U,Va,e⟩:=List.append_of_mem (gV.mpr hj);have nd:(U++j::Va).Nodup:=e▸fDM;have nA:∀i∈U,i≠j:=λi hi q=>(gT.mp nd).2.2 i hi j fB q;have nB:∀i∈Va,i≠j:=λi hi q=>(fT.mp (gT.mp nd).2.1).1 (q▸hi);have p:(jk (o.setIfInBounds j (some k))).Perm ((j,k)::jk o):=by
  unfold jk;rw[e,fCK,fCK,fA1,fA1,here,old];dsimp only;rw[zhc λi hi=>oth i (nA i hi),zhc λi hi=>oth i (nB i hi)];exact fDK
 have q:((jk (o.setIfInBounds j (some k))).map (·.2)).Perm (k::List.range k):=(p.map (λx:Nat×Nat=>x.2)).trans (h.perm.cons k);rw[fCW];exact q.trans (fBP (l₁:=[k]))
noncomputable def zpS(acc:Option (zaA×Nat))(h:Int):Option (zaA×Nat):=do
 let (owner,k) <-acc
 let j <-SetTable.layClean.free 31 owner (SetTable.turns 31) (SetTable.bits h%(31+1)) (SetTable.bits h)
 pure (owner.setIfInBounds j (some k),k+1)
theorem znR:∀(hs:List Int) (o:zaA) (k:Nat),Ow o k->k+hs.length<=8->(∀h∈hs,0<=h/\h<32768)->∃o',hs.foldl zpS (some (o,k))=some (o',k+hs.length)/\Ow o' (k+hs.length):=by
 intro hs
 induction hs with
 | nil=>exact λo k h _ _=>⟨o,rfl,h⟩
 | cons h hs ih=>
  intro o k hO hl hh;rw[fH] at hl;obtain⟨j,e,hj,hn⟩:=zqg hO (by exact zu9 hl) (hh h fB).1 (hh h fB).2;obtain⟨o',e',hO'⟩:=ih _ _ (zsw hO hj hn) (by exact zu8 hl) λx hx=>hh x (fA _ hx);refine⟨o',?_,?_⟩
  .rw[pM,show zpS (some (o,k)) h=some (o.setIfInBounds j (some k),k+1) by unfold zpS;simp only[Option.bind_eq_bind,Option.bind_some];rw[e];rfl,e',fH]
   congr 2;exact zmE
  .rw[fH,show k+(hs.length+1)=k+1+hs.length by exact zvt];exact hO'
theorem zqh:Ow (Array.replicate 32 none) 0:=⟨Array.size_replicate,by
 have:jk (Array.replicate 32 none)=[]:=by decide +kernel
 rw[this];exact .nil⟩
theorem zsh{hs:Array Int}(hl:hs.size<=8)(hh:∀h∈hs.toList,0<=h/\h<32768):∃o,SetTable.layClean 31 hs=some o/\Ow o hs.size:=by
 obtain⟨o,e,hO⟩:=znR hs.toList _ 0 zqh (by rw[gB,fAO];exact hl) hh;rw[gB,fAO] at e hO;refine⟨o,?_,hO⟩;have e2:SetTable.layClean 31 hs=(hs.foldl (init:=some (Array.replicate 32 none,0)) zpS).map (·.1):=rfl;rw[e2,<-Array.foldl_toList,e];rfl
theorem zqo{led:Bool}{mv:Nat}{P:List Nat}{es:Array (Int×Value)}(hl:es.size<=8)(hh:∀e∈es.toList,0<=e.1/\e.1<32768) :
  ∃P' es',relayAll (jY led 7 mv P) es 20=(es',jY led 31 (mv+1) P',false)/\es'.toList.Perm es.toList/\qy P'/\P'.length=es.size:=by
 obtain⟨o,e,hO⟩:=zsh (hs:=es.map (·.1)) (by rw[fDW];exact hl) (λh hm=>by
  rw[fDL] at hm;obtain⟨x,hx,rfl⟩:=fG.mp hm;exact hh x hx)
 rw[fDW] at hO;have er:(jY led 7 mv P).relaid (es.map (·.1)) 20=some (jY led 31 (mv+1) ((jk o).map (·.1)),((jk o).map (·.2)).toArray):=by
  show SetTable.laid 31 0 (mv+1) led true (es.map (·.1))=_;unfold SetTable.laid;rw[e]
  rfl
 have hp:=hO.perm;have hlen:((jk o).map (·.1)).length=es.size:=by rw[fC,<-fC (f:=λx:Nat×Nat=>x.2),hp.length_eq,gY]
 have pm:((((jk o).map (·.2)).toArray).filterMap (es[·]?)).toList.Perm es.toList:=by
  rw[Array.toList_filterMap];refine(hp.filterMap _).trans (List.Perm.of_eq ?_);refine fBR λi=>?_;have:∀n,n<=es.size->((List.range n).filterMap (es[·]?))=es.toList.take n:=λn=>by
   induction n with
   | zero=>intro _;rfl
   | succ n ih=>
    intro hn;rw[fCW,fCK,ih (by exact zo6 hn),fAN,fA1,List.filterMap_nil,gK];cases hx:es[n]? with
    | none=>rw[fC6] at hx;lia
    | some x=>rfl
  rw[this es.size (fO _),fAL (by rw[gB];exact fO _)]
 refine⟨(jk o).map (·.1),((((jk o).map (·.2)).toArray).filterMap (es[·]?)),?_,pm,zhC o,hlen⟩;have hsz:((((jk o).map (·.2)).toArray).filterMap (es[·]?)).size=es.size:=by rw[<-gB,pm.length_eq,gB]
 have c1:coversAll ((jk o).map (·.2)).toArray es.size=true:=List.isPerm_iff.mpr hp;have c2:(jY led 31 (mv+1) ((jk o).map (·.1))).fits ((((jk o).map (·.2)).toArray).filterMap (es[·]?)).size=true:=by
  unfold SetTable.fits SetTable.fill jY;dsimp only;rw[hsz,fZ,hlen];simp only[beq_self_eq_true,fB7,decide_eq_true_eq];show es.size+0<=31;exact zu2 hl
 unfold relayAll;rw[er];dsimp only;rw[c1,c2]
 rfl
theorem zdS{v:Int}(h0:0<=v)(h1:v<32768):hashInt v=v:=by
 have e:rawHash v=v:=by
  unfold rawHash;dsimp only;have h2:((v.natAbs:Nat):Int)%((2 ^ 61-1:Nat):Int)=v:=by rw[Int.natAbs_of_nonneg h0];exact Int.emod_eq_of_lt h0 (fC1 h1 (by decide))
  rw[h2,if_neg (show ¬v<0 by exact zuz h0),if_neg (by simp only[beq_iff_eq];exact zrA h0)]
 unfold hashInt;rw[e,if_neg (by simp only[beq_iff_eq];exact zrA h0)]
def IntE(es:List (Int×Value)):Prop:=∀e∈es,(0<=e.1/\e.1<32768)/\∃t,e.2 = .int e.1 t
noncomputable def zew(led:Bool)(m mv:Nat)(P:List Nat)(es:List (Int×Value))(ep:Nat):Obj:={ cls:=.type "set",dict:=none,data:=.set es.toArray ep (jY led m mv P) }
structure GTab(m:Nat)(P:List Nat)(es:List (Int×Value)):Prop where
 mask:m=7/\P.length<=4\/m=31/\P.length<=8
 up:qy P
 len:P.length=es.length
 isI:IntE es
 nd:(es.map (·.1)).Nodup
def GSet(led:Bool)(h:Heap)(a:Addr)(K:List Int):Prop:=∃m mv P es ep,GTab m P es/\es.length<=K.length/\(∀k,k∈es.map (·.1)↔k∈K)/\h.get? a=some (zew led m mv P es ep)
theorem GSet.at{led:Bool}{h h':Heap}{a:Addr}{K:List Int}(x:GSet led h a K)(e:∀o,h.get? a=some o->h'.get? a=some o):GSet led h' a K:=by
 obtain⟨m,mv,P,es,ep,h1,h2,h3,h4⟩:=x;exact⟨m,mv,P,es,ep,h1,h2,h3,e _ h4⟩
theorem GTab.fits{led:Bool}{m mv:Nat}{P:List Nat}{es:List (Int×Value)}(h:GTab m P es):(jY led m mv P).fits es.toArray.size=true:=by
 unfold SetTable.fits SetTable.fill jY;dsimp only;rw[fZ,fZ,h.len,beq_self_eq_true,fB7,decide_eq_true_eq];have:=h.len;show es.length+0<=m
 rcases h.mask with⟨h1,h2⟩|⟨h1,h2⟩<;>(first|exact zvI this h1 h2|exact zvH this h1 h2)
theorem IntE.elems{prog:Hi}{w:World}{es:List (Int×Value)}(h:IntE es):ElemsOf (intKind prog w) es:=λe he=>by
 obtain⟨⟨h0,h1⟩,t,ht⟩:=h e he;exact⟨⟨e.1,by rw[ht];exact intKind_is _ _ _ _,(zdS h0 h1).symm⟩,by rw[ht];rfl⟩
section
variable{prog:Hi}{w:World}{A:Around}{E:Value->Shared->Prop}{s:Shared}
theorem kh{led:Bool}{m mv:Nat}{P:List Nat}{es:List (Int×Value)}{ep:Nat}{a:Addr}{Q:(Array (Int×Value)×Nat×SetTable)->Shared->Prop}(hT:GTab m P es)(ho:s.heap.get? a=some (zew led m mv P es ep))
  (h:Q (es.toArray,ep,jY led m mv P) s):wpAny (model prog w) A (setState a) Q E s:=
 wpAny_setState_of ho rfl hT.fits h
theorem zlm{prog:Hi}{w:World}{es:List (Int×Value)}(h:IntE es){v:Int}(hn:List.findIdx? (λe=>(intKind prog w).is v e.2) es=none):v∉es.map (·.1):=λhm=>by
 obtain⟨e,he,rfl⟩:=fG.mp hm;obtain⟨_,t,ht⟩:=h e he;have:=fC9.mp hn e he;rw[ht,intKind_is] at this;cases this
theorem zln{prog:Hi}{w:World}{es:List (Int×Value)}(h:IntE es){v:Int}{j:Nat}(hn:List.findIdx? (λe=>(intKind prog w).is v e.2) es=some j):v∈es.map (·.1):=by
 obtain⟨hj,hp,_⟩:=fCG.mp hn;obtain⟨_,t,ht⟩:=h _ (fAK hj);obtain⟨u,hu⟩:=Value.isInt_shape (show Value.isInt v _=true from hp);rw[ht] at hu;cases hu;exact fG.mpr ⟨_,fAK hj,rfl⟩
theorem zpU{led:Bool}{m mv:Nat}{P:List Nat}{es:List (Int×Value)}{v:Int}{t:Tok}(hT:GTab m P es)(h7:P.length<=7)(hv:0<=v/\v<32768):∃P1 es1,layNew (jY led m mv P) es.toArray v (.int v t)=(es1,jY led m mv P1,false,false)/\es1.toList.Perm (es++[(v,.int v t)])/\qy P1/\P1.length=P.length+1:=by
 obtain⟨j,hfs,hj⟩:=zrZ (led:=led) (mv:=mv) hT.up (hT.mask.imp And.left And.left) h7 hv.1 hv.2;have hI:(SetTable.insertAt es.toArray (SetTable.below P.toArray j) (v,Value.int v t)).toList.Perm (es++[(v,.int v t)]):=by
  have:=SetTable.insertAt_perm es.toArray (SetTable.below P.toArray j) (v,Value.int v t);rwa [gE] at this
 refine⟨zhn P j,SetTable.insertAt es.toArray (SetTable.below P.toArray j) (v,Value.int v t),?_,hI,zhp hT.up hj,zho P j⟩;have hs1:(SetTable.insertAt es.toArray (SetTable.below P.toArray j) (v,Value.int v t)).size=P.length+1:=by rw[<-gB,hI.length_eq,fF,fY,hT.len]
 have ft:(jY led m mv (zhn P j)).fits (SetTable.insertAt es.toArray (SetTable.below P.toArray j) (v,Value.int v t)).size=true:=by
  unfold SetTable.fits SetTable.fill jY;dsimp only;rw[fZ,zho,hs1,beq_self_eq_true,fB7,decide_eq_true_eq];show P.length+1+0<=m
  rcases hT.mask with⟨rfl,h2⟩|⟨rfl,h2⟩<;>exact gW (fE h2 (by decide))
 unfold layNew;rw[hfs];dsimp only;rw[zt7];dsimp only;unfold SetTable.orStandIn;rw[ft];rfl
theorem zpp{es:List (Int×Value)}{es1:List (Int×Value)}{v:Int}{t:Tok}{K:List Int}(hi:IntE es)(nd:(es.map (·.1)).Nodup)(hm:∀k,k∈es.map (·.1)↔k∈K)(hv:0<=v/\v<32768)(hn:v∉es.map (·.1))(p:es1.Perm (es++[(v,.int v t)])):IntE es1/\(es1.map (·.1)).Nodup/\∀k,k∈es1.map (·.1)↔k∈K++[v]:=by
 refine⟨λe he=>?_,?_,λk=>?_⟩
 .rcases fS.mp (p.mem_iff.mp he) with q|q
  .exact hi e q
  .rw[fP.mp q];exact⟨hv,t,rfl⟩
 .refine(p.map _).nodup_iff.mpr ?_;rw[fW];exact gT.mpr ⟨nd,fT.mpr ⟨gQ,.nil⟩,λx hx y hy e=>hn (by have hy:y=v:=fP.mp hy;exact hy▸e▸hx)⟩
 .rw[(p.map _).mem_iff,fW,fS,fS,hm];rfl
theorem zr0{led:Bool}{m mv:Nat}{P P1:List Nat}(h:m=7/\P.length<=4\/m=31/\P.length<=8)(h7:P.length<=7)(hl:P1.length=P.length+1):((!false)&&(jY led m mv P1).tooFull)=decide (m=7/\P.length=4):=by
 unfold SetTable.tooFull SetTable.fill jY;dsimp only;rw[fZ,hl];show decide ((P.length+1+0)*5>=m*3)=_;refine decide_eq_decide.mpr ?_
 rcases h with⟨rfl,h2⟩|⟨rfl,h2⟩
 .exact(show ∀n,n<=4→((n+1+0)*5>=7*3↔(7=7/\n=4)) by decide +kernel) _ h2
 .exact(show ∀n,n<=8→((n+1+0)*5>=31*3↔(31=7/\n=4)) by decide +kernel) _ h2
theorem zrq{led:Bool}{m mv m' mv':Nat}{P P':List Nat}{es:List (Int×Value)}{es':Array (Int×Value)}{ep:Nat}{a:Addr}{h:Heap}(ho:h.get? a=some (zew led m mv P es ep)):(h.update a (Obj.putSet es' (jY led m' mv' P'))).get? a=some (zew led m' mv' P' es'.toList (ep+1)):=by
 rw[Heap.get?_update_self _ ho rfl];show some (Obj.putSet _ _ (zew led m mv P es ep))=_
 congr 1
theorem ztG{led:Bool}{a:Addr}{v:Int}{t:Tok}{K:List Int}{Q:Bool->Shared->Prop}(hv:0<=v/\v<32768)(hK:K.length<=7)(hS:GSet led s.heap a K)(h:∀b h',Heap.SameBut a s.heap h'->GSet led h' a (K++[v])->Q b { s with heap:=h' }) :
  wpAny (model prog w) A (setAddHashed a (.int v t) (hashInt v)) Q E s:=by
 obtain⟨m,mv,P,es,ep,hT,hl,hm,ho⟩:=id hS;have hel:ElemsOf (intKind prog w) es.toArray.toList:=hT.isI.elems;have hb:es.toArray.size<scanBound:=by rw[fZ];unfold scanBound;exact fC5 (fE hl hK) (by decide)
 unfold setAddHashed setAddHashedIn;refine Ha (G7 (kh hT ho ?_));dsimp only;rw[byScan_of (knd:=intKind prog w) rfl hb hel];simp only[↓reduceIte];unfold setAddByScan;refine G7 ?_;refine G7 (Hc ?_);refine G7 (wpAny_setScan_of (knd:=intKind prog w) (k:=v) (intKind_is _ _ _ _) ho rfl hT.fits hel ?_);cases hr:List.findIdx? (λe=>(intKind prog w).is v e.2) es.toArray.toList with
 | some j=>
  refine G8 (G8 ?_);have hin:=zln hT.isI hr;refine h false s.heap (Heap.SameBut.refl a s.heap) ⟨m,mv,P,es,ep,hT,by rw[fF];exact fE hl (pR _ _),λk=>?_,ho⟩;rw[hm,fS,fP];exact⟨.inl,λq=>q.elim id λe=>e▸(hm v).mp hin⟩
 | none=>
  have hnin:=zlm hT.isI hr;have h7:P.length<=7:=by rw[hT.len];exact fE hl hK
  rw[zdS hv.1 hv.2];obtain⟨P1,es1,eL,p1,r1,l1⟩:=zpU (led:=led) (mv:=mv) (t:=t) hT h7 hv;obtain⟨i1,nd1,m1⟩:=zpp hT.isI hT.nd hm hv hnin p1;have hs1:es1.size=P.length+1:=by rw[<-gB,p1.length_eq,fF,fY,hT.len]
  have hK1:es1.toList.length<=(K++[v]).length:=by rw[p1.length_eq,fF,fF];exact Nat.add_le_add_right hl _
  rw[eL];dsimp only;refine G7 (G8 ?_);refine G7 (wpAny_of_eq (a:=true) (by rw[hashByValue_scannable 8 rfl];rfl) ?_);simp only[↓reduceIte];refine G7 (wpAny_storeSet_of ho rfl ?_ (by rw[hs1,Hb];exact fE (gW h7) (by decide)));have ho1:=zrq (es':=es1) (m':=m) (mv':=mv) (P':=P1) ho;rw[zr0 hT.mask h7 l1]
  by_cases hc:m=7/\P.length=4
  .rw[Hz hc];obtain⟨rfl,hc⟩:=hc;simp only[↓reduceIte];rw[show SetTable.grown es1.size=20 by rw[hs1,hc];rfl];obtain⟨P2,es2,e2,p2,r2,l2⟩:=zqo (led:=led) (mv:=mv) (P:=P1) (es:=es1) (by rw[hs1];exact gW h7) (λe he=>(i1 e he).1);rw[e2];dsimp only;refine G7 (G8 ?_);refine G7 (wpAny_storeSet_of ho1 rfl ?_ (by rw[<-gB,p2.length_eq,gB,hs1,Hb];exact fE (gW h7) (by decide)));refine G8 (G8 ?_);exact h true _ ((Heap.SameBut.update s.heap a _).trans (Heap.SameBut.update _ a _)) ⟨31,mv+1,P2,es2.toList,ep+1+1,⟨.inr ⟨rfl,by rw[l2,hs1];exact gW h7⟩,r2,by rw[l2,p2.length_eq,gB],λe he=>i1 e (p2.mem_iff.mp he),(p2.map _).nodup_iff.mpr nd1⟩,by rw[p2.length_eq];exact hK1,λk=>by rw[(p2.map _).mem_iff];exact m1 k,zrq ho1⟩
  .rw[Hy hc];simp only[gC,↓reduceIte];refine G8 (G8 ?_);refine h true _ (Heap.SameBut.update s.heap a _) ⟨m,mv,P1,es1.toList,ep+1,⟨?_,r1,l1.trans (hs1.symm.trans (gB ..).symm),i1,nd1⟩,hK1,m1,ho1⟩;rw[l1];exact hT.mask.imp (λh=>⟨h.1,fCB h.2 λq=>hc ⟨h.1,q⟩⟩) λh=>⟨h.1,gW h7⟩
end
def zkb(ns:List Int)(i:Nat)(v:Value):Prop:=∃t,v = .int (ns.getD i 0) t
structure NsOk(ns:List Int):Prop where
 rng:∀k∈ns,0<=k/\k<32768
 len:ns.length<=8
section
variable{prog:Hi}{w:World}{A:Around}{R:Result->Shared->Prop}{I:Addr}{fp wr:List Addr}{G:Array GenState->Array GenState->Prop}{P:Nat->Value->Prop}{St:Nat->Shared->Prop}
theorem zr6{led:Bool}{ns:List Int}(W:WalksS prog w A.in1 I fp wr G ns.length P St)(S:Addr)(hSf:S∉fp)(hn:NsOk ns)(hval:∀i v,P i v->zkb ns i v) :
  ∀(k i:Nat) (s:Shared),ns.length-i=k->i<=ns.length->St i s->GSet led s.heap S (ns.take i)->
   (∀s',Moved (S::wr) G s s'->GSet led s'.heap S ns->R (.ok (.ret .none)) s')->
   Hj (model prog w) A (.builtin "set.update.loop" ⟨[.ref S,.ref I],[]⟩) R s:=by
 have hSw:S∉wr:=λh=>hSf (W.sub _ h);have hsub:∀b∈wr,b∈S::wr:=λb hb=>fA _ hb;intro k
 induction k with
 | zero=>
  intro i s hk hi hst hS hR;obtain rfl:i=ns.length:=by exact zvc hk hi
  rw[fB0] at hS;refine codeAny_builtin PyProof.Rows.F.entry_set_update_loop ?_;rw[Around.under_plainId PyProof.Rows.F.plain_set_update_loop _];show wpAny _ A.in1 (pyNext (.ref I) >>= _) _ _ s;refine G7 (W.done s _ _ hst λs' hm=>?_);exact G8 (hR s' (hm.mono hsub) (hS.at λo e=>hm.heap S _ hSw e))
 | succ k ih=>
  intro i s hk hi hst hS hR;refine codeAny_builtin PyProof.Rows.F.entry_set_update_loop ?_;rw[Around.under_plainId PyProof.Rows.F.plain_set_update_loop _];show wpAny _ A.in1 (pyNext (.ref I) >>= _) _ _ s;refine G7 (W.item i s _ _ (by exact zwJ hk) hst λv s' hP hst' hm=>?_);obtain⟨t,rfl⟩:=hval i v hP;have hlt:i<ns.length:=by exact zwJ hk
  have hS':GSet led s'.heap S (ns.take i):=hS.at λo e=>hm.heap S _ hSw e;have hx:ns.getD i 0=ns[i]:=by rw[fQ,fJ hlt];rfl
  have htk:ns.take i++[ns[i]]=ns.take (i+1):=by rw[fAN,fJ hlt];rfl
  have hl8:=hn.len;rw[hx];show wpAny _ A.in1 (holding [Value.int (ns[i]) t] (setAdd S (.int (ns[i]) t)) >>= _) _ _ s';refine G7 (Ha ?_);unfold setAdd;refine Ha (G7 ((intKind prog w).pyHash (k:=ns[i]) (intKind_is _ _ _ _) ?_));refine ztG (s:={ s' with toks:=s'.toks+1 }) (hn.rng _ (fAK hlt)) (by rw[fAT];exact zve hlt hl8) hS' λb h' hsb hS2=>?_;rw[htk] at hS2;refine G8 ⟨plainId_quiet PyProof.Rows.F.plain_set_update_loop _,ih (i+1) _ (by exact zBc hk) (by exact zmD hlt) (W.frame _ s' _ _ hst' (fA7 _) λc hc o e=>?_) hS2 λs'' hm'' hS''=>?_⟩
  .rw[hsb.2 c (λh:c=S=>hSf (by rw[<-h];exact hc))];exact e
  .refine hR s'' (Moved.trans W.gtrans ((hm.mono hsub).then_heap (fA7 _) λc o hc e=>?_) hm'') hS'';rw[hsb.2 c (λh:c=S=>hc (by rw[h];exact fB))];exact e
end
section
variable{prog:Hi}{w:World}{A:Around}{E:Value->Shared->Prop}{s:Shared}
noncomputable abbrev zct(w:World):Bool:=!(w.params.followText "set-order")
noncomputable abbrev zbH(w:World):Obj:={ cls:=.type "set",dict:=none,data:=.set #[] 0 (.fresh 0 0 (zct w)) }
theorem ztI(a:Value){Q₁:Value->Shared->Prop}(h:Q₁ (.ref s.heap.objs.size) { s with heap:=s.heap.push (zbH w) }) :
  Hj (model prog w) A (.call (.builtin "set.__new__") ⟨[.type "set",a],[]⟩) (wants Q₁ E) s:=by
 refine codeAny_of_tree ?_;show wpAny _ A.in1 (do checkBuiltinCall "set.__new__" ⟨[.type "set",a],[]⟩;again (.builtin "set.__new__" ⟨[.type "set",a],[]⟩)) _ _ s;refine G7 (wpAny_of_eq (PySem.F.newCall_set_1 a) (G8 ⟨plainId_quiet PySem.F.plain_set_new _,codeAny_builtin PySem.F.entry_set_new ?_⟩));rw[Around.under_plainId PySem.F.plain_set_new _];unfold Builtin.«set.__new__» Builtin.Frozenset.newClass;have hsub:=PySem.sub_set_self;obtain⟨hp,g,d,tk,os⟩:=s;dsimp only
 wp_walk
 refine wpAny_askSetting (G8 ?_);dsimp only;simp only[newObj];refine G7 (wpAny_alloc (G8 ?_));exact G8 h
theorem zr3{l S:Addr}{items:Array Value}{ns:List Int}{R:Result->Shared->Prop}(hh:A.handled=none)(hl:s.heap.IsList l items)(hn:NsOk ns)(hsz:items.size=ns.length)(hi:∀(i:Nat) v,items[i]? = some v->zkb ns i v)(hS:s.heap.get? S=some (zbH w))(hne:S≠l)
  (h:∀h' tk,GSet (zct w) h' S ns->(∀b o,b≠S->s.heap.get? b=some o->h'.get? b=some o)->R (.ok (.ret .none)) { s with heap:=h',toks:=tk }) :
  wpAny (model prog w) A.in1 (Builtin.«set.__init__» ⟨[.ref S,.ref l],[]⟩)
   (λfin s'=>match fin with|.done f=>R (.ok f) s'|.again c'=>c'.quiet=true/\Hj (model prog w) A c' R s') (λe s'=>R (.error e) s') s:=by
 have hT:Shared.TypeIs s (.ref S) "set":=⟨_,hS,rfl⟩
 obtain⟨ol,hol,hcl,nl,hdl⟩:=id hl;obtain⟨ocls,odict,odata,oslots⟩:=ol;simp only at hcl hdl;subst hcl;subst hdl;have hsls:=PySem.F.sub_list_set;have hslf:=PySem.F.sub_list_frozenset;have hnd:(Value.type "list"==Value.type "dict")=false:=by decide
 unfold Builtin.«set.__init__» noKeywords Builtin.Frozenset.updateFrom;generalize hPI:pyIter=PI
 wp_walk
 subst hPI;refine wpAny_pyIter_list hl ?_;refine G7 (wpAny_runValue ?_);have hll:l<s.heap.objs.size:=Heap.lt_size hol;have hSl:S<s.heap.objs.size:=Heap.lt_size hS;have hSf:S∉[s.heap.objs.size,l]:=by
  simp only[fM,gQ,or_false,not_or];exact⟨gS hSl,hne⟩
 refine zr6 (led:=zct w) (ns:=ns) (hsz▸(Walks.list (by simpa using hh) _ l (gS hll) items).toS) S hSf hn hi (ns.length-0) 0 _ rfl (fV _)
  ⟨⟨_,Heap.get?_push_size _ rfl,rfl,rfl⟩,(hl.push _)⟩ ⟨7,0,[],[],0,⟨.inl ⟨rfl,fV _⟩,.nil,rfl,(λ_ h=>nomatch h),.nil⟩,fV _,λk=>Iff.rfl,Heap.get?_push_of_some _ hS⟩ λs' hm hS'=>?_
 obtain⟨h',g',d',tk',os'⟩:=s';have eg:g'=s.gens:=hm.gens;have ed:d'=s.drawn:=hm.drawn;have eo:os'=s.os:=hm.os;subst eg;subst ed;subst eo;show wpAny _ _ _ _ _ _;refine G8 ?_;refine G8 (h h' tk' hS' λb o hb e=>?_);refine hm.heap b o ?_ (Heap.get?_push_of_some _ e);simp only[fM,gQ,or_false,not_or];exact⟨hb,gS (Heap.lt_size e)⟩
theorem ztJ{l:Addr}{items:Array Value}{ns:List Int}{Q:Value->Shared->Prop}(hh:A.handled=none)(hl:s.heap.IsList l items)(hn:NsOk ns)(hsz:items.size=ns.length)(hi:∀(i:Nat) v,items[i]? = some v->zkb ns i v)
  (h:∀(h':Heap) (tk:Nat),GSet (zct w) h' s.heap.objs.size ns->(∀b o,s.heap.get? b=some o->h'.get? b=some o)->Q (.ref s.heap.objs.size) { s with heap:=h',toks:=tk }) :
  wpAny (model prog w) A (call (.type "set") [.ref l]) Q E s:=by
 obtain⟨c,tl,hmro⟩:=PySem.F.called_set.mro;have hmade:=PySem.F.called_set.made;have hsub:=PySem.F.called_set.sub;refine wpAny_call (codeAny_of_tree ?_);show wpAny _ _ (callAny (.type "set") _) _ _ _;refine G8 ⟨Code.quiet_builtin _ (by decide +kernel),codeAny_builtin PySem.F.entry_type_call ?_⟩;rw[Around.under_plain (weight_type_call_type "set" [.ref l] []) rfl];have h1:=PySem.F.called_set.notType;have h2:=PySem.F.called_set.canCreate;have hct:=PySem.F.typeCall_set_1 (.ref l)
 repeat (any_goals (first|assumption|wp_step))
 refine Hg (ztI (.ref l) (E:=E) (Q₁:=λobj s₁=>obj = .ref s.heap.objs.size/\s₁={ s with heap:=s.heap.push (zbH w) }) ⟨rfl,rfl⟩) λr s₁ hr=>?_;cases r with
 | error e=>exact hr
 | ok fl=>
  cases fl with
  | ret obj=>
   obtain⟨rfl,rfl⟩:=hr;have hS:(s.heap.push (zbH w)).get? s.heap.objs.size=some (zbH w):=Heap.get?_push_size _ rfl;have hT:Shared.TypeIs { s with heap:=s.heap.push (zbH w) } (.ref s.heap.objs.size) "set":=⟨_,hS,rfl⟩
   have hli:=PySem.F.called_set.init.lookup;have hbi:=PySem.F.called_set.init.bind (.ref s.heap.objs.size)
   repeat (any_goals (first|assumption|wp_step))
   refine Hg (codeAny_call_builtin (R:=wants (λr s₂=>r = .none/\∃h' tk,s₂={ s with heap:=h',toks:=tk }/\GSet (zct w) h' s.heap.objs.size ns/\(∀b o,s.heap.get? b=some o->h'.get? b=some o)) E)
    PySem.F.called_set.init.plain PySem.F.entry_set_init (PySem.check_set_init_1 hT ?_)) λr₂ s₂ hr₂=>?_
   .have hll:l<s.heap.objs.size:=let ⟨_,ho,_⟩:=hl;Heap.lt_size ho;refine zr3 (s:={ s with heap:=s.heap.push (zbH w) }) (by simpa using hh) (hl.push _) hn hsz hi hS (fBI hll) λh' tk hS' hk=>?_;exact⟨rfl,h',tk,rfl,hS',λb o e=>hk b o (gS (Heap.lt_size e)) (Heap.get?_push_of_some _ e)⟩
   .cases r₂ with
    | error e=>exact hr₂
    | ok fl₂=>
     cases fl₂ with
     | ret r=>
      obtain⟨rfl,h',tk,rfl,hS',hk'⟩:=hr₂
      repeat (any_goals (first|assumption|wp_step))
      exact h _ _ hS' hk'
     | _=>exact hr₂.elim
  | _=>exact hr.elim
end
theorem zdK{J:Type}:∀(l:List J) (i:Nat) (h:i<l.length),(l[i]::l.eraseIdx i).Perm l
 | x::l,0,_=>.refl _
 | x::l,i+1,h=>(List.Perm.swap ..).trans (.cons x (zdK l i (by simpa using h)))
theorem zyg{J:Type}{next:Nat->Nat}{n k:Nat}{left:List J}{out:Array J}:pickOrder.go next (n+1) k left out=match left[next k%left.length]? with|some x=>pickOrder.go next n (k+1) (left.eraseIdx (next k%left.length)) (out.push x)|none=>out:=rfl
theorem zlW{J:Type}(next:Nat->Nat):∀(fuel k:Nat) (left:List J) (out:Array J),left.length=fuel->(pickOrder.go next fuel k left out).toList.Perm (out.toList++left):=by
 intro fuel
 induction fuel with
 | zero=>
  intro k left out h;rw[fAW h,gU];exact .refl _
 | succ fuel ih=>
  intro k left out h;have hlt:next k%left.length<left.length:=Nat.mod_lt _ (by exact zvh h)
  rw[zyg];rw[fJ hlt];refine(ih (k+1) _ _ (by rw[List.length_eraseIdx_of_lt hlt];exact zvg h)).trans ?_;rw[gE,gH];exact List.Perm.append_left _ (zdK left _ hlt)
noncomputable def qi(w:World)(a:Addr)(ep:Nat)(es:List (Int×Value)):List (Int×Value):=
 if w.params.followText "set-order" = true then (pickOrder (w.params.setOrder a ep) es.toArray).toList else es
theorem zj5(w:World)(a:Addr)(ep:Nat)(es:List (Int×Value)):(qi w a ep es).Perm es:=by
 unfold qi;split
 .exact zlW (w.params.setOrder a ep) es.toArray.size 0 es.toArray.toList #[] rfl
 .exact .refl _
noncomputable def za2(P:List Nat)(i:Nat):Nat:=if i=0 then 0 else P.getD (i-1) 0+1
theorem zqv{P:List Nat}(hP:qy P){i:Nat}(hi:i<=P.length):SetTable.below P.toArray (za2 P i)=i:=by
 obtain⟨h1,h2,h3⟩:=zbs hP (za2 P i);generalize hr:SetTable.below P.toArray (za2 P i)=r at h1 h2 h3;cases i with
 | zero=>
  cases r with
  | zero=>rfl
  | succ r=>exact absurd (h2 0 _ (fCH r) (fJ (show 0<P.length by exact zvb h1))) (fBM _)
 | succ i=>
  have hs:za2 P (i+1)=P[i]+1:=by
   show P.getD i 0+1=_;rw[fQ,fJ (show i<P.length by exact zrG hi)];rfl
  rw[hs] at h2 h3
  rcases fDD r (i+1) with q|q|q
  .have a:=h3 r _ (fO _) (fJ (show r<P.length by exact zvu hi q))
   rcases Nat.lt_or_eq_of_le (fBS q) with q'|q'
   .have:=pP.mp hP r i (by exact zvv hi q') (by exact zrG hi) q';exact absurd this (pE.mpr (fE (fA7 _) a))
   .subst q';exact absurd a (Nat.not_succ_le_self _)
  .exact q
  .have a:=h2 (i+1) _ q (fJ (show i+1<P.length by exact zrI h1 q));have:=pP.mp hP i (i+1) (by exact zvL h1 q) (by exact zrI h1 q) (by exact zo5);exact absurd this (pE.mpr (fBS a))
noncomputable def q8(w:World)(P:List Nat)(i:Nat):Nat:=if w.params.followText "set-order" = true then 0 else za2 P i
section
variable{prog:Hi}{w:World}{A:Around}{E:Value->Shared->Prop}{s:Shared}
theorem zfc{m mv:Nat}{P:List Nat}{es:List (Int×Value)}{ep i:Nat}{a:Addr}{Q:Option (Value×Nat)->Shared->Prop}(hT:GTab m P es)(ho:s.heap.get? a=some (zew (zct w) m mv P es ep))(hi:i<=(qi w a ep es).length)
  (h:Q (((qi w a ep es)[i]?).map λe=>(e.2,q8 w P (i+1))) s):wpAny (model prog w) A (setNext a (q8 w P i) i ep) Q E s:=by
 unfold setNext;refine G7 (kh hT ho ?_);dsimp only;unfold setsByText;refine G7 (G7 (wpAny_askSetting (G8 ?_)));show wpAny _ _ (if w.params.followText "set-order" = true then _ else _) _ _ _;cases hb:w.params.followText "set-order" with
 | true=>
  rw[if_pos rfl];rw[if_neg (by simp)];refine G7 ?_;unfold setWalk;refine G7 (kh hT ho ?_);dsimp only;unfold setsByText;refine G7 (G7 (wpAny_askSetting (G8 ?_)));show wpAny _ _ (if w.params.followText "set-order" = true then _ else _) _ _ _;rw[if_pos hb];refine G7 (wpAny_askSetting (G8 (G8 ?_)));unfold qi q8 at h;rw[if_pos hb,if_pos hb] at h;unfold q8;rw[if_pos hb];rw[gK] at h;exact h
 | false=>
  rw[if_neg (by simp)];refine wpAny_ite_split (λh=>absurd h pK) λ_=>?_;refine G7 (wpAny_ite_split (λh=>absurd h (by unfold jY zct;rw[hb];exact pK)) λ_=>G8 ?_);unfold qi q8 at h;unfold qi at hi;rw[hb] at h hi;simp only[gC,if_false] at h hi;unfold q8;rw[hb];simp only[gC,if_false];have hl:=hT.len;have hs:=zqv hT.up (i:=i) (by exact zvA hi hl);show wpAny _ _ (pure _) _ _ _;refine G8 ?_;show Q (match es.toArray[SetTable.below P.toArray (za2 P i)]?,P.toArray[SetTable.below P.toArray (za2 P i)]? with|some (_,x),some j=>some (x,j+1)|_,_=>none) s;rw[hs];rw[fAS,fAS];cases h1:es[i]? with
  | none=>rw[h1] at h;exact h
  | some e=>
   obtain⟨e1,e2⟩:=e;have hlt:i<es.length:=(fX.mp h1).1;have h2:P[i]? = some (P.getD i 0):=by rw[fQ];rw[fJ (by exact zwU hl hlt)];rfl
   rw[h2];rw[h1] at h;exact h
def IsSetIt(w:World)(h:Heap)(I a:Addr)(P:List Nat)(i n ep:Nat):Prop:=∃o,h.get? I=some o/\o.cls = .type "set_iterator"/\o.data = .fields #[.int (q8 w P i) 0,.int i 0,.ref a,.int n 0,.int ep 0]
theorem slot_setit_next:Slot "set_iterator" "__next__" "set_iterator.__next__":=
 .of (owner:="set_iterator") (n:="__next__") (by rw[typeLookup_type,builtinLookup_eq_fast];kernel_rfl) (by decide +kernel) (by decide +kernel) (by decide +kernel)
  (by first|exact .inl (by decide +kernel)|exact .inr (by decide +kernel)) (by rw[isSubtype_type];kernel_rfl)
theorem kF:entryFor table "set_iterator.__next__" = some Builtin.«set_iterator.__next__»:=entryFor_of_tree (by kernel_rfl)
theorem zcZ:Manifest.owners.lookup (String.ofList ['r','o','t','a','r','e','t','i','_','t','e','s'].reverse)=some Manifest.sig_set_iterator:=by kernel_rfl
theorem zar(a:Value):argsOk "set_iterator.__next__" ⟨[a],[]⟩:=by
 unfold argsOk;rw[signature?_of (id:="set_iterator.__next__") (n:=['_','_','t','x','e','n','_','_']) (o:=['r','o','t','a','r','e','t','i','_','t','e','s']) (by kernel_rfl) zcZ];kernel_rfl
theorem zau:Slot "set_iterator" "__iter__" "set_iterator.__iter__":=
 .of (owner:="set_iterator") (n:="__iter__") (by rw[typeLookup_type,builtinLookup_eq_fast];kernel_rfl) (by decide +kernel) (by decide +kernel) (by decide +kernel)
  (by first|exact .inl (by decide +kernel)|exact .inr (by decide +kernel)) (by rw[isSubtype_type];kernel_rfl)
theorem zcp:entryFor table "set_iterator.__iter__" = some Builtin.«dict_keyiterator.__iter__»:=entryFor_alias (id':="dict_keyiterator.__iter__") (by kernel_rfl) rfl (by decide +kernel) (by kernel_rfl)
theorem zc8(a:Value):argsOk "set_iterator.__iter__" ⟨[a],[]⟩:=by
 unfold argsOk;rw[signature?_of (id:="set_iterator.__iter__") (n:=['_','_','r','e','t','i','_','_']) (o:=['r','o','t','a','r','e','t','i','_','t','e','s']) (by kernel_rfl) zcZ];kernel_rfl
theorem zdH:entryFor table "set.__iter__" = some Builtin.«frozenset.__iter__»:=entryFor_alias (id':="frozenset.__iter__") (by kernel_rfl) rfl (by decide +kernel) (by kernel_rfl)
variable{m mv:Nat}{P:List Nat}{es:List (Int×Value)}{ep i n:Nat}{a I:Addr}
theorem IsSetIt.typeIs(x:IsSetIt w s.heap I a P i n ep):s.TypeIs (.ref I) "set_iterator":=by obtain⟨o,ho,hc,_⟩:=x;exact⟨o,ho,hc⟩
theorem zr4{Q:Option Value->Shared->Prop}{e:Int×Value}(hT:GTab m P es)(ho:s.heap.get? a=some (zew (zct w) m mv P es ep))(hit:IsSetIt w s.heap I a P i es.length ep)(hx:(qi w a ep es)[i]? = some e)
  (hQ:∀h',IsSetIt w h' I a P (i+1) es.length ep->Heap.SameBut I s.heap h'->Q (some e.2) { s with heap:=h' }):wpAny (model prog w) A (pyNext (.ref I)) Q E s:=by
 obtain⟨o,hI,hc,hd⟩:=id hit;have hlt:i<(qi w a ep es).length:=(fX.mp hx).1;unfold pyNext;refine G7 (wpAny_attempt (wpAny_callSpecial?_slot (name:=Str.ofString "__next__") hit.typeIs slot_setit_next
  (He slot_setit_next hit.typeIs kF ?_ (zar _))))
 unfold Builtin.«set_iterator.__next__»;refine G7 (G8 ?_);refine G7 (wpAny_fieldsOf hI hd ?_);dsimp only;refine G7 (m:=setEntries a) ?_;unfold setEntries;refine G7 (kh hT ho (G8 ?_));rw[if_neg (by simp)];refine G7 (m:=setNext a _ _ _) ?_;refine zfc (i:=i) (ep:=ep) hT ho (fAB hlt) ?_;rw[hx];simp only[Option.map_some];refine G7 (wpAny_setField hI hd (by simp) ?_);have h1:=Heap.get?_update_self (Obj.mapFields (·.setIfInBounds 0 (rawInt (q8 w P (i+1))))) hI (Obj.isFreed_of_fields (Obj.data_mapFields hd _));have hd1:=Obj.data_mapFields hd (λfs:Array Value=>fs.setIfInBounds 0 (rawInt (q8 w P (i+1))));refine G7 (wpAny_setField h1 hd1 (by simp) ?_);refine G8 ⟨_,rfl,G8 (hQ _ ⟨_,Heap.get?_update_self _ h1 (Obj.isFreed_of_fields (Obj.data_mapFields hd1 _)),?_,?_⟩ ?_)⟩
 .exact(Obj.cls_mapFields ..).trans ((Obj.cls_mapFields ..).trans hc)
 .rw[Obj.data_mapFields hd1];simp[rawInt]
 .exact(Heap.SameBut.update ..).trans (Heap.SameBut.update ..)
theorem ztH{Q:Option Value->Shared->Prop}(hh:A.handled=none)(hT:GTab m P es)(ho:s.heap.get? a=some (zew (zct w) m mv P es ep))(hit:IsSetIt w s.heap I a P (qi w a ep es).length es.length ep)
  (hQ:∀h',Heap.ExtBut I s.heap h'->Q none { s with heap:=h' }):wpAny (model prog w) A (pyNext (.ref I)) Q E s:=by
 obtain⟨o,hI,hc,hd⟩:=id hit;unfold pyNext;refine G7 (wpAny_attempt (wpAny_callSpecial?_slot (name:=Str.ofString "__next__") hit.typeIs slot_setit_next
  (He slot_setit_next hit.typeIs kF ?_ (zar _))))
 unfold Builtin.«set_iterator.__next__»;refine G7 (G8 ?_);refine G7 (wpAny_fieldsOf hI hd ?_);dsimp only;refine G7 (m:=setEntries a) ?_;unfold setEntries;refine G7 (kh hT ho (G8 ?_));rw[if_neg (by simp)];refine G7 (m:=setNext a _ _ _) ?_;refine zfc (i:=(qi w a ep es).length) (ep:=ep) hT ho (fO _) ?_;rw[fAF (fO _)];simp only[fDT];refine G7 (wpAny_setField hI hd (by simp) ?_);show wpAny _ _ (newExc (.type "StopIteration") [] >>= _) _ _ _;refine G7 ?_;simp only[newExc,newTuple];refine G7 (wpAny_newObj_type ?_ (by size_fits));refine G7 (m:=firstArgMember _ _) (wpAny_of_eq (a:=Value.none) (by first|rfl|(simp only[firstArgMember];rfl)) ?_);refine wpAny_newObj_type ?_ (by size_fits);unfold raiseNew;refine G7 (wpAny_handled ?_);rw[show A.in1.handled=none from hh];refine G7 (G8 (wpAny_throw ?_));refine G7 (wpAny_isInstance (T:="StopIteration") (b:=true) ⟨_,Heap.get?_push_size _ rfl,rfl⟩ isSubtype_stop ?_);exact G8 (hQ _ (((Heap.SameBut.update ..).extBut.push _).push _))
theorem zr5{Q:Value->Shared->Prop}(hT:GTab m P es)(ho:s.heap.get? a=some (zew (zct w) m mv P es ep))
  (hQ:Q (.ref s.heap.objs.size) { s with heap:=s.heap.push { cls:=.type "set_iterator",data:=.fields #[.int 0 0,.int 0 0,.ref a,.int es.length 0,.int ep 0] } }):wpAny (model prog w) A (pyIter (.ref a)) Q E s:=by
 have hY:s.TypeIs (.ref a) "set":=⟨_,ho,rfl⟩
 refine wpAny_pyIter_slot hY PySem.F.slot_set_iter (He PySem.F.slot_set_iter hY zdH ?_ (PySem.F.args_set_iter_1 _));unfold Builtin.«frozenset.__iter__»;refine G7 (m:=Builtin.Frozenset.slot0 _ _) (wpAny_of_eq (a:=a) rfl ?_);unfold Builtin.Frozenset.sizeOf setEntries;refine G7 (G7 (G7 (kh hT ho (G8 (G8 ?_)))));refine G7 (m:=setDrawn a) ?_;unfold setDrawn;refine G7 (kh hT ho ?_);dsimp only;unfold setsByText;refine G7 (G7 (wpAny_askSetting (G8 (G8 ?_))));refine wpAny_ite_split (λh=>absurd h (by rw[gX];rintro⟨_,h2⟩;exact absurd h2 pK)) λ_=>?_;refine G7 (G8 ?_);unfold setEpoch;refine G7 (G7 (kh hT ho (G8 ?_)));refine G7 (wpAny_newObj_type (G8 ⟨_,rfl,"set_iterator",_,⟨_,Heap.get?_push_size _ rfl,rfl⟩,slot_setit_next.lookup,?_⟩))
 simpa [rawInt] using hQ
end
noncomputable def qG:Value->Int
 | .int k _=>k
 | _=>0
section
variable{prog:Hi}{w:World}{A:Around}{E:Value->Shared->Prop}{s:Shared}{m mv:Nat}{P:List Nat}{es:List (Int×Value)}{ep:Nat}{a:Addr}
theorem zr2{Q:Bool->Shared->Prop}(hY:s.TypeIs (.ref a) "set")(h:Q false s):wpAny (model prog w) A (Builtin.List.listLengthHint (.ref a)) Q E s:=by
 unfold Builtin.List.listLengthHint;refine G7 (wpAny_specialOf hY PySem.F.slot_set_len.lookup ?_);generalize hid:("set.__len__" : String)=id0
 wp_delta
 rw[show splitId id0=some ("set","__len__") from by subst hid;decide +kernel];subst hid;refine G7 (wpAny_isInstance (T:="set") (b:=true) hY (by rw[isSubtype_type];kernel_rfl) ?_);refine wpAny_ite_split (λhab=>absurd hab (by decide)) (λ_=>?_);refine wpAny_ite_split (λ_=>?_) (λhab=>absurd (by decide +kernel) hab);refine G7 (wpAny_typeOf hY ?_);exact G8 h
theorem zpx{I:Addr}(hh:A.handled=none)(hne:a≠I)(hT:GTab m P es) :
  Walks prog w A I [I,a] [I] (qi w a ep es).length (λi v=>((qi w a ep es)[i]?).map (·.2)=some v) (λi h=>IsSetIt w h I a P i es.length ep/\h.get? a=some (zew (zct w) m mv P es ep)) where
 sub:=λb hb=>by simp at hb;simp[hb]
 frame:=λ_ _ _ st hk=>⟨let ⟨o,ho,r⟩:=st.1;⟨o,hk I (by simp) o ho,r⟩,hk a (by simp) _ st.2⟩
 item:=λi s Q E hi st hQ=>by
  obtain⟨e,he⟩:∃e,(qi w a ep es)[i]? = some e:=⟨(qi w a ep es)[i],by simp[hi]⟩
  refine zr4 hT st.2 st.1 he λh' hit hs=>?_;refine hQ e.2 h' s.toks (by rw[he];rfl) ⟨hit,(hs.2 a hne).trans st.2⟩ λb o hb q=>(hs.2 b (by simpa using hb)).trans q
 done:=λs Q E st hQ=>ztH hh hT st.2 st.1 λh' hx=>hQ h' s.toks λb o hb q=>hx b o (by simpa using hb) q
 self:=λ_ s _ _ st hQ=>by
  have hit:=st.1;refine wpAny_pyIter_slot hit.typeIs zau (He zau hit.typeIs zcp ?_ (zc8 _));show wpAny _ _ (ret (.ref I)) _ _ s;exact G8 ⟨_,rfl,"set_iterator",_,hit.typeIs,slot_setit_next.lookup,hQ⟩
theorem ztK(hT:GTab m P es):KdlSrc prog w "set" a a (qi w a ep es).length (λi v=>((qi w a ep es)[i]?).map (·.2)=some v) (λh=>h.get? a=some (zew (zct w) m mv P es ep)) where
 type:=λ_ h=>⟨_,h,rfl⟩
 there:=λ_ h=>⟨Heap.lt_size h,Heap.lt_size h⟩
 keep:=λ_ _ h hk=>hk a (.inl rfl) _ h
 notList:=by decide
 notTuple:=by decide
 hint:=λ_ _ _ _ h hq=>zr2 ⟨_,h,rfl⟩ hq
 iter:=λA s hh h=>⟨_,_,(λ_ _ hq=>zr5 hT h hq),zpx hh (gS (Heap.lt_size h)) hT,⟨⟨_,Heap.get?_push_size _ rfl,rfl,by
  have e:q8 w P 0=0:=by unfold q8 za2;split<;>rfl
  rw[e];rfl⟩,Heap.get?_push_of_some _ h⟩⟩
theorem zg2{T:String}{r d:Addr}{n:Nat}{Pz:Nat->Value->Prop}{OK:Heap->Prop}{Q:List Value->Shared->Prop}(K:KdlSrc prog w T r d n Pz OK)(hh:A.handled=none)(hok:OK s.heap)(hn:n<=sizeLine)
  (h:∀h' tk (vs:List Value),(∀b o,s.heap.get? b=some o->h'.get? b=some o)->vs.length=n->(∀(j:Nat) v,vs[j]? = some v->Pz j v)->Q vs { s with heap:=h',toks:=tk }):wpAny (model prog w) A (collect (.ref r)) Q E s:=by
 have hlt:=K.there _ hok;unfold collect;refine G7 (wpAny_runValue (codeAny_builtin PySem.F.entry_proto_collect ?_));rw[Around.under_plainId PySem.F.plain_proto_collect _];show wpAny _ A.in1 (newList [] >>= λl=>again (.builtin "list.__iadd__" ⟨[l,.ref r],[]⟩)) _ _ s;refine G7 (wpAny_newObj_type ?_);refine G8 ⟨plainId_quiet PySem.F.plain_list_iadd _,codeAny_builtin PySem.F.entry_list_iadd ?_⟩;rw[Around.under_plainId PySem.F.plain_list_iadd _];have hS₁:(s.heap.push { cls:=.type "list",data:=.seq ([]:List Value).toArray }).get? s.heap.objs.size=some { cls:=.type "list",data:=.seq ([]:List Value).toArray }:=Heap.get?_push_size _ rfl;show wpAny _ A.in1 (Builtin.List.listExtendWith (.ref s.heap.objs.size) (.ref r) (.ref s.heap.objs.size)) _ _ _;refine kdl_extend (R:=λr s'=>match r with|.ok (.ret v)=>wpAny (model prog w) A (match v with|.ref a=>(do let o <-load a;match o.data with|.seq xs _=>pure xs.toList|_=>unsupported "internal:collect")|_=>unsupported "internal:collect") Q E s'|.ok _=>False|.error e=>E e s') (s:={ s with heap:=s.heap.push { cls:=.type "list",data:=.seq ([]:List Value).toArray } }) K hh (K.keep _ _ hok λb _ o e=>Heap.get?_push_of_some _ e) s.heap.objs.size (fBI hlt.1) (fBI hlt.2) _ _ hS₁ (λh' tk acc' c' hk hS' hacc=>?_) hn;show wpAny _ A (load s.heap.objs.size >>= _) _ _ _;refine G7 (wpAny_load hS' ?_)
 refine G8 (h h' tk acc'.toList (λb o e=>hk b o (gS (Heap.lt_size e)) (Heap.get?_push_of_some _ e)) (by rw[gB];exact hacc.1) λj v hj=>hacc.2 j v (by rw[<-gK];exact hj))
theorem zmy{x y:Int}(h1:0<=x)(h2:0<=y):x.toNat<y.toNat↔x<y:=by
 obtain⟨n,rfl⟩:=pS h1;obtain⟨k,rfl⟩:=pS h2;exact fAI.symm
theorem znt{K:List Int}{Q:Value->Shared->Prop}(hh:A.handled=none)(hK:K.length<=8)(hS:GSet (zct w) s.heap a K)
  (h:∀h' tk D (vs:List Value) c,s.heap.objs.size<=D->(∀b o,s.heap.get? b=some o->h'.get? b=some o)->(∀v∈vs,∃t,v = .int (qG v) t)->(vs.map qG).Pairwise (· < ·)->(∀k,k∈vs.map qG↔k∈K)->vs.length<=8->h'.get? D=some (Hv "list" vs.toArray c)->Q (.ref D) { s with heap:=h',toks:=tk }) :
  wpAny (model prog w) A (call (.builtin "sorted") [.ref a]) Q E s:=by
 obtain⟨m,mv,P,es,ep,hT,hl,hm,ho⟩:=hS;have pw:=zj5 w a ep es;have hwl:=pw.length_eq;have h8:(qi w a ep es).length<=8:=by exact zvE hK hl hwl
 refine Calls.call_function_entry kind_sorted plain_sorted entry_sorted (args_sorted1 _) ?_;unfold Builtin.«sorted»;refine G7 (m:=checkCount "sorted" 1 1 _) (G8 ?_);refine G7 (zD (zg2 (ztK hT) (by simpa using hh) ho (by rw[Hb];exact zvD hK hl hwl) λh1 tk1 vs hk1 hv1 hv2 hsz=>?_));have hvs:vs=(qi w a ep es).map (·.2):=by
  apply fBR;intro i;rw[fA8];cases he:vs[i]? with
  | some v=>exact(hv2 i v he).symm
  | none=>
   have:vs.length<=i:=fB3.mp he;rw[fAF (by exact zvJ hv1 this)];rfl
 have hin:∀v∈vs,∃e∈es,v=e.2/\qG v=e.1/\∃t,v = .int (qG v) t:=λv hv=>by
  rw[hvs] at hv;obtain⟨e,he,rfl⟩:=fG.mp hv;have he:=pw.mem_iff.mp he;obtain⟨_,t,ht⟩:=hT.isI e he;have ei:qG e.2=e.1:=by rw[ht];rfl
  exact⟨e,he,rfl,ei,t,by rw[ei];exact ht⟩
 have hmap:(vs.map qG).Perm (es.map (·.1)):=by
  rw[hvs,gA];refine(pw.map _).trans (List.Perm.of_eq (gG λe he=>?_));obtain⟨_,t,ht⟩:=hT.isI e he;show qG e.2=e.1;rw[ht];rfl
 have h0:∀v∈vs,0<=qG v:=λv hv=>by
  obtain⟨e,he,_,e1,_⟩:=hin v hv;rw[e1];exact(hT.isI e he).1.1
 have hvl:vs.length<=8:=by exact zvS hK hl hwl hv1
 refine G7 (Hf ?_ (by rw[Hb];exact zvR hK hl hwl hv1));have hoL:(h1.push (Hv "list" vs.toArray 0)).get? h1.objs.size=some (Hv "list" vs.toArray 0):=Heap.get?_push_size _ rfl;have hlow:∀b o,s.heap.get? b=some o->b≠h1.objs.size:=λb o e=>gS (gP (Heap.lt_size e) hsz);have mz:∀z,z∈(vs.toArray.zip vs.toArray).toList->z.1∈vs:=λz hz=>by
  have:z∈vs.zip vs:=by simpa using hz
  exact(fB9 this).1
 refine G7 (Ha (He slot_list_sort ⟨_,hoL,rfl⟩ entry_list_sort ?body (args_list_sort _)))
 case body=>
  refine zet (s:={ s with heap:=h1.push (Hv "list" vs.toArray 0),toks:=tk1 }) (λv=>(qG v).toNat) hoL (by exact zvQ hK hl hwl hv1) (fE hvl (by decide)) (λh' hk' h2=>?_) λout c h3 hperm hsrt ho3 hk3=>?_
  .refine⟨oneType',λQ' hq=>?_,λp' q' hp' hq' Q' E' hQ=>?_⟩
   .refine kas_kind (s:={ s with heap:=h',toks:=tk1 }) (vs:=vs) (T:=.type "int") (by exact zqU h2) (λv hv=>?_) (by decide) (by decide) hq;obtain⟨e,_,_,_,t,ht⟩:=hin v hv;rw[ht];exact .now
   .have hp:=mz p' hp';have hq:=mz q' hq';have a1:=h0 _ hp;have a2:=h0 _ hq;obtain⟨_,_,_,_,t,ht⟩:=hin _ hp;obtain⟨_,_,_,_,t',ht'⟩:=hin _ hq;have e:decide ((qG p'.1).toNat<(qG q'.1).toNat)=decide (qG p'.1<qG q'.1):=decide_eq_decide.mpr (zmy a1 a2);have hQ:Q' (decide ((qG p'.1).toNat<(qG q'.1).toNat)) { s with heap:=h',toks:=tk1 }:=hQ;rw[e] at hQ;generalize p'.1=v1 at ht hQ ⊢;generalize q'.1=v2 at ht' hQ ⊢;rw[ht,ht',keyLt'_oneType];rw[ht,ht'] at hQ;exact oneLt_int hQ
  .refine⟨_,rfl,G8 ⟨_,rfl,h h3 tk1 h1.objs.size out c hsz (λb o e=>hk3 b o (hlow b o e) (Heap.get?_push_of_some _ (hk1 b o e))) (λv hv=>?_) ?_ (λk=>?_) (by rw[hperm.length_eq];exact hvl) ho3⟩⟩
   .obtain⟨_,_,_,_,ht⟩:=hin v (hperm.mem_iff.mp hv);exact ht
   .have nd:(out.map qG).Nodup:=((hperm.map qG).trans hmap).nodup_iff.mpr hT.nd;have p1:(out.map qG).Pairwise λa b=>a.toNat<=b.toNat:=fAD.mpr hsrt;have z:∀k∈out.map qG,0<=k:=λk hk=>by
     obtain⟨v,hv,rfl⟩:=fG.mp hk;exact h0 v (hperm.mem_iff.mp hv)
    exact(List.Pairwise.and p1 nd).imp_of_mem λ{x y} hx hy hab=>by
     have h1:=z x hx;have h2:=z y hy;have h3:x.toNat<=y.toNat:=hab.1;have h4:x≠y:=hab.2;exact zuE hab h2
   .rw[((hperm.map qG).trans hmap).mem_iff];exact hm k
end
theorem zpW:typeLookup (.type "list_reverseiterator") "__len__" = pure none:=by rw[typeLookup_type,builtinLookup_eq_fast];kernel_rfl
theorem znW:typeLookup (.type "list_reverseiterator") "__length_hint__" = pure (some (.builtin "list_reverseiterator.__length_hint__")):=by rw[typeLookup_type,builtinLookup_eq_fast];kernel_rfl
section
variable{prog:Hi}{w:World}{A:Around}{E:Value->Shared->Prop}{s:Shared}{a l:Addr}{items:Array Value}
theorem zou{Q:Bool->Shared->Prop}(hY:s.TypeIs (.ref a) "list_reverseiterator")(h:Q false s):wpAny (model prog w) A (Builtin.List.listLengthHint (.ref a)) Q E s:=by
 unfold Builtin.List.listLengthHint;refine G7 (wpAny_specialOf hY zpW ?_)
 wp_delta
 refine wpAny_ite_split (λhab=>absurd hab (by decide)) (λ_=>?_);refine wpAny_ite_split (λhab=>absurd hab (by decide)) (λ_=>?_);refine G7 (wpAny_specialOf hY znW ?_);generalize hid:("list_reverseiterator.__length_hint__" : String)=id0
 wp_delta
 rw[show splitId id0=some ("list_reverseiterator","__length_hint__") from by subst hid;decide +kernel];subst hid;refine G7 (wpAny_isInstance (T:="list_reverseiterator") (b:=true) hY (by rw[isSubtype_type];kernel_rfl) ?_);refine wpAny_ite_split (λhab=>absurd hab (by decide)) (λ_=>?_);refine wpAny_ite_split (λ_=>?_) (λhab=>absurd (by decide +kernel) hab);refine wpAny_ite_split (λhab=>absurd hab (by decide +kernel)) (λ_=>?_);exact G8 h
theorem zjE{r:Addr}{R:Result->Shared->Prop}(hh:A.handled=none)(hit:s.heap.IsRevIter r l ((items.size:Int)-1))(hl:s.heap.IsList l items)(hrl:l≠r)(S:Addr)(hSr:S≠r)(hSl:S≠l)(res:Value)(c₀:Nat)(hS:s.heap.get? S=some { cls:=.type "list",data:=.seq #[] c₀ })
  (hR:∀h' tk acc' c',(∀b o,b≠S->b≠r->s.heap.get? b=some o->h'.get? b=some o)->h'.get? S=some { cls:=.type "list",dict:=none,data:=.seq acc' c',slots:=#[] }->ItemsOf (λi v=>items[items.size-1-i]? = some v) acc' items.size->R (.ok (.ret res)) { s with heap:=h',toks:=tk })(hn:items.size<=sizeLine) :
  wpAny (model prog w) A.in1 (Builtin.List.listExtendWith (.ref S) (.ref r) res)
   (λfin s'=>match fin with|.done f=>R (.ok f) s'|.again c'=>c'.quiet=true/\Hj (model prog w) A c' R s') (λe s'=>R (.error e) s') s:=by
 have hSf:S∉[r,l]:=by simp only[fM,gQ,or_false,not_or];exact⟨hSr,hSl⟩
 have W:=Walks.listRev (prog:=prog) (w:=w) (A:=A.in1) hh r l hrl items;have st:0<=items.size/\s.heap.IsRevIter r l ((items.size:Int)-1-((0:Nat):Int))/\s.heap.IsList l items:=⟨fV _,by rw[Int.natCast_zero,Int.sub_zero];exact hit,hl⟩
 have key:∀(h:Heap) (c₁ tk:Nat),(0<=items.size/\h.IsRevIter r l ((items.size:Int)-1-((0:Nat):Int))/\h.IsList l items)->(∀b o,b≠S->s.heap.get? b=some o->h.get? b=some o)->
   h.get? S=some { cls:=.type "list",data:=.seq #[] c₁ }->Hj (model prog w) A (.builtin "list.extend.loop" ⟨[.ref S,.ref r,res],[]⟩) R { s with heap:=h,toks:=tk }:=by
  intro h c₁ tk hst hk hS₁;refine codeAny_extend_loopS W.toS hn S hSf res items.size 0 _ #[] c₁ rfl (fV _) hst hS₁ (ItemsOf.nil _) λs' acc' c' hm hS' hacc=>?_;rw[Moved.eq_with hm];refine hR s'.heap s'.toks acc' c' (λb o hb hbr e=>hm.heap b o (λhmem=>?_) (hk b o hb e)) hS' hacc
  rcases fM.mp hmem with e'|hmem
  .exact hb e'
  .exact hbr (fP.mp hmem)
 have hY:s.TypeIs (.ref r) "list_reverseiterator":=hit.typeIs;unfold Builtin.List.listExtendWith;refine G7 (wpAny_typeOf (T:="list_reverseiterator") hY ?_);have h1:Builtin.List.listSameRef (.ref S) (.ref r)=false:=by simp[Builtin.List.listSameRef,hSr]
 simp only[h1,show (Value.type "list_reverseiterator"==Value.type "list")=false by decide,show (Value.type "list_reverseiterator"==Value.type "tuple")=false by decide,Bool.or_false,gC,if_false];refine G7 (wpAny_pyIter_revIter hit ?_);refine G7 (Ha (zou hY ?_));refine wpAny_ite_split (λhab=>absurd hab (by decide)) (λ_=>G8 ⟨plainId_quiet PySem.F.plain_extend_loop _,key _ c₀ _ st (λb o _ e=>e) hS⟩)
theorem zot{r:Addr}{Q:Value->Shared->Prop}(hh:A.handled=none)(hit:s.heap.IsRevIter r l ((items.size:Int)-1))(hl:s.heap.IsList l items)(hrl:l≠r)(hn:items.size<=sizeLine)
  (hQ:∀h' tk acc' c',(∀b o,b≠r->s.heap.get? b=some o->h'.get? b=some o)->h'.get? s.heap.objs.size=some { cls:=.type "list",dict:=none,data:=.seq acc' c',slots:=#[] }->ItemsOf (λi v=>items[items.size-1-i]? = some v) acc' items.size->Q (.ref s.heap.objs.size) { s with heap:=h',toks:=tk }) :
  wpAny (model prog w) A (call (.type "list") [.ref r]) Q E s:=by
 refine callType_codes (Q₁:=λobj s₁=>obj = .ref s.heap.objs.size/\s₁={ s with heap:=s.heap.push { cls:=.type "list",data:=.seq #[] } }) PySem.F.called_list (PySem.F.typeCall_list_1 _) PySem.F.entry_list_init
  (code_list_new _ ⟨rfl,rfl⟩) λobj s₁ h₁=>?_
 obtain⟨rfl,rfl⟩:=h₁;have hS:(s.heap.push { cls:=.type "list",data:=.seq #[] }).get? s.heap.objs.size=some { cls:=.type "list",data:=.seq #[] }:=Heap.get?_push_size _ rfl;have hr:r<s.heap.objs.size:=by obtain⟨o,ho,_⟩:=id hit;exact Heap.lt_size ho
 have hll:l<s.heap.objs.size:=by obtain⟨o,ho,_⟩:=id hl;exact Heap.lt_size ho
 refine⟨⟨_,hS,rfl⟩,PySem.F.args_list_init_2 _ _,?_⟩;show wpAny _ _ (do let old <-Builtin.List.listItems (.ref s.heap.objs.size);Builtin.List.listUpdate (.ref s.heap.objs.size) (λ_=>#[]);letGo old.toList.reverse;Builtin.List.listExtendWith (.ref s.heap.objs.size) (.ref r) .none) _ _ _;refine G7 ?_;unfold Builtin.List.listItems;refine G7 (wpAny_seqItems hS rfl (G8 ?_));show wpAny _ _ (updateSeq s.heap.objs.size (λ_=>#[]) >>= λ_=>letGo (#[]:Array Value).toList.reverse >>= λ_=>Builtin.List.listExtendWith (.ref s.heap.objs.size) (.ref r) .none) _ _ _;refine G7 (wpAny_updateSeq hS rfl ?_);have hS₂:=Heap.get?_update_self (Obj.mapSeq (λ_=>(#[]:Array Value))) hS rfl;have oth:∀b o,s.heap.get? b=some o->((s.heap.push { cls:=.type "list",data:=.seq #[] }).update s.heap.objs.size (Obj.mapSeq (λ_=>(#[]:Array Value)))).get? b=some o:=
  λb o e=>(Heap.get?_update_other _ _ (Ne.symm (gS (Heap.lt_size e)))).trans (Heap.get?_push_of_some _ e)
 refine G7 (wpAny_letGo ?_);refine zjE (A:=A.in1) hh (hit.at λo e=>oth r o e) (hl.at λo e=>oth l o e) hrl _ (fBI hr) (fBI hll) .none _ hS₂ (λh' tk acc' c' hk hS' hacc=>?_) hn;exact⟨rfl,hQ h' tk acc' c' (λb o hb e=>hk b o (gS (Heap.lt_size e)) hb (oth b o e)) hS' hacc⟩
end
inductive All2{J β:Type}(R:J->β->Prop):List J->List β->Prop
 | nil:All2 R [] []
 | cons {a:J} {b:β} {as:List J} {bs:List β}:R a b->All2 R as bs->All2 R (a::as) (b::bs)
theorem All2.perm{J β:Type}{R:J->β->Prop}{bs cs:List β}(p:cs.Perm bs):∀{as:List J},All2 R as bs->∃ds:List J,ds.Perm as/\All2 R ds cs:=by
 induction p with
 | nil=>intro as h;exact⟨as,.refl _,h⟩
 | cons b p ih=>
  intro as h;cases h with
  | @cons a _ as' _ h1 h2=>
   refine zb (ih h2) λds h3 h4=>?_;exact⟨a::ds,.cons a h3,.cons h1 h4⟩
 | swap b c l=>
  intro as h;cases h with
  | @cons a _ as' _ h1 h2=>
   cases h2 with
   | @cons a' _ as' _ h3 h4=>exact⟨a'::a::as',.swap ..,.cons h3 (.cons h1 h4)⟩
 | trans p q ih1 ih2=>
  intro as h;refine zb (ih2 h) λds h1 h2=>?_;refine zb (ih1 h2) λes h3 h4=>?_;exact zd es (h3.trans h1) h4
theorem All2.mem2{J β:Type}{R:J->β->Prop}:∀{as:List J} {bs:List β},All2 R as bs->∀b∈bs,∃a∈as,R a b:=by
 intro as bs h
 induction h with
 | nil=>intro b hb;cases hb
 | cons h1 h2 ih=>
  intro b hb
  rcases fM.mp hb with e|hb
  .subst e;exact zd _ fB h1
  .refine zb (ih b hb) λa ha hr=>?_;exact zd a (fA _ ha) hr
theorem All2.pair{J β:Type}{R:J->β->Prop}{f:J->Nat}{g:β->Nat}:∀{as:List J} {bs:List β},All2 R as bs->(∀a∈as,∀b,R a b->g b=f a)->bs.Pairwise (λx y=>g x<=g y)->as.Pairwise (λx y=>f x<=f y):=by
 intro as bs h
 induction h with
 | nil=>intro _ _;exact .nil
 | cons h1 h2 ih=>
  intro he hp;cases hp with
  | cons p1 p2=>
   refine .cons (λb hb=>?_) (ih (λa ha=>he a (fA _ ha)) p2);have:∀{as bs},All2 R as bs->∀a∈as,∃b∈bs,R a b:=by
    intro as bs h
    induction h with
    | nil=>intro b hb;cases hb
    | cons h1 h2 ih=>
     intro b hb
     rcases fM.mp hb with e|hb
     .subst e;exact zd _ fB h1
     .refine zb (ih b hb) λa ha hr=>?_;exact zd a (fA _ ha) hr
   refine zb (this h2 b hb) λc hc hr=>?_;have:=p1 c hc;rw[he _ fB _ h1,he b (fA _ hb) c hr] at this;exact this
theorem zpc{O:AHeap}{h:Heap}{key:AV->AV}:∀{xs:List AV} {vs ks:List Value},RepVs O h xs vs->RepVs O h (xs.map key) ks->All2 (λx (p:Hu)=>RepV O h x p.2/\RepV O h (key x) p.1) xs (ks.zip vs):=by
 intro xs
 induction xs with
 | nil=>intro vs ks h1 h2;obtain rfl:=RepVs.wG h1;cases h2;exact .nil
 | cons x xs ih=>
  intro vs ks h1 h2;cases h1 with
  | cons a1 r1=>cases h2 with
   | cons a2 r2=>exact .cons ⟨a1,a2⟩ (ih r1 r2)
theorem zmK{O:AHeap}{h:Heap}{key:AV->AV}:∀{xs:List AV} {ps:List Hu},All2 (λx (p:Hu)=>RepV O h x p.2/\RepV O h (key x) p.1) xs ps->RepVs O h xs (ps.map (·.2)):=by
 intro xs ps h
 induction h with
 | nil=>exact .nil
 | cons h1 h2 ih=>exact .cons h1.1 ih
def zra(X:Cx)(kf:Value)(Ov:AHeap)(A:Around)(x k:AV):Prop:=∀O s v,vis O=Ov->At X O s->RepV O s.heap x v->wpAny X.M A (PySem.call kf [v] []) (liftQ X O s λk' O'=>k'=k/\O'=Ov) (λ_ _=>False) s
theorem zsB{J:Type}{R:J->J->Prop}{l:List J}(h:l.length<2):l.Pairwise R:=by
 cases l with
 | nil=>exact .nil
 | cons x l=>cases l with
  | nil=>exact fAY _ _
  | cons y l=>exact absurd h (pE.mpr (gW (gW (fV _))))
theorem zpP{X:Cx}{A:Around}{O:AHeap}{s:Shared}{xs:List AV}{key:AV->AV}{Y:AV->Nat}{YK:Value->Nat}{kA:Array Value}{vs:List Value}{E:Value->Shared->Prop}(a:At X O s)(hu:A.units+2000<cLine)(z:All2 (λx (p:Hu)=>RepV O s.heap x p.2/\RepV O s.heap (key x) p.1) xs (kA.zip vs.toArray).toList)(rk:RepVs O s.heap (xs.map key) kA.toList)(h3:2<=kA.size)(kd:zdp (xs.map key))(hlt:∀x∈xs,∀y∈xs,zdq (vis O) (key x) (key y) (decide (Y x<Y y)))(hρ:∀x∈xs,∀k,RepV O s.heap (key x) k->YK k=Y x) :
  ∃κ,qt X.prog X.w A s κ (λp=>YK p.1) (kA.zip vs.toArray)/\wpAny X.M A (keyKind' kA) (λκ' s''=>κ'=κ/\s''=s) E s:=by
 have pr:∀{p q:Hu},p∈(kA.zip vs.toArray).toList->q∈(kA.zip vs.toArray).toList->∃x y,(x∈xs/\y∈xs)/\(RepV O s.heap (key x) p.1/\RepV O s.heap (key y) q.1)/\YK p.1=Y x/\YK q.1=Y y:=λ{p q} hp hq=>by
  refine zb (z.mem2 p hp) λx hx rx=>?_;refine zb (z.mem2 q hq) λy hy ry=>?_;exact⟨x,y,⟨hx,hy⟩,⟨rx.2,ry.2⟩,hρ x hx _ rx.2,hρ y hy _ ry.2⟩
 rcases kd with kd|kd
 .have kd:∀x∈xs,∃i r,key x = .tup (.int i::r):=λx hx=>kd _ (gN hx);obtain⟨fs,f1,f2,f3⟩:=zdZ (M:=X.M) (T:=.type "int") rk (λx hx=>by
   refine zb (fG.mp hx) λy hy e24_2=>?_;subst e24_2;refine zY (kd y hy) λi r e=>?_;refine zbw _ r e (λv rv=>?_);obtain⟨_,rfl⟩:=RepV.wC rv;exact .now)
  refine zd (tuples' true) (λp' q' hp' hq' Q' E' hQ=>?_) ?_
  .obtain⟨x,y,⟨hx,hy⟩,⟨rx,ry⟩,e1,e2⟩:=pr hp' hq';exact zkW a hu rx ry (kd x hx) (kd y hy) (hlt x hx y hy) (by rw[<-e1,<-e2];exact hQ)
  .have kk:=kat_kind (A:=A) (E:=E) (s:=s) (Q:=λκ s''=>κ=tuples' true/\s''=s) f1 (by rw[f2,gB];exact zyG h3) f3 (by decide) ⟨congrArg tuples' (show (Value.type "int" != Value.type "tuple")=true by decide),rfl⟩;rw[fBX] at kk;exact kk
 .have kd:∀x∈xs,∃i,key x = .int i:=λx hx=>kd _ (gN hx);refine zd oneType' (λp' q' hp' hq' Q' E' hQ=>?_) ?_
  .obtain⟨x,y,⟨hx,hy⟩,⟨rx,ry⟩,e1,e2⟩:=pr hp' hq';exact zkt rx ry (kd x hx) (kd y hy) (hlt x hx y hy) (by rw[<-e1,<-e2];exact hQ)
  .have kk:=kas_kind (M:=X.M) (A:=A) (E:=E) (s:=s) (vs:=kA.toList) (T:=.type "int") (Q:=λκ s''=>κ=oneType'/\s''=s) (by rw[gB];exact zqU h3) (λv hv=>by
    refine zb (rk.mem v hv) λx hx rx=>?_;refine zb (fG.mp hx) λy hy e37_2=>?_;subst e37_2;obtain⟨i,e⟩:=kd y hy;rw[e] at rx;obtain⟨_,rfl⟩:=RepV.wC rx;exact .now) (by decide) (by decide) ⟨rfl,rfl⟩
   rw[fBX] at kk;exact kk
open Classical in
theorem zjI{X:Cx}{kf:Value}{A:Around}{O:AHeap}{s:Shared}{r:Bool}{xs:List AV}{vs:List Value}{h1:Heap}{D:Addr}{key:AV->AV}{Y:AV->Nat}{Q:zk}{E:Value->Shared->Prop}{R:Fin->Shared->Prop}(room:A.units+2000<cLine)(a:At X O s)(rs:RepVs O s.heap xs vs)(hm:xs.length<=1000000)(hD:D=s.heap.objs.size+1)(hs1:h1.objs.size=s.heap.objs.size+2)(hoL:h1.get? D=some (Hv "list" vs.toArray 0))(keep:∀b o,s.heap.get? b=some o->h1.get? b=some o)
  (hk:∀x∈xs,zra X kf (vis O) A x (key x))(kd:zdp (xs.map key))(hlt:∀x∈xs,∀y∈xs,zdq (vis O) (key x) (key y) (decide (Y x<Y y)))
  (q:∀ys:List AV,ys.Perm xs->ys.Pairwise (λx y=>Y x<=Y y)->mkL r ys Q (vis O))(hR:∀v s',liftQ X O s Q (.ref D) s'->R (.done (.ret v)) s') :
  wpAny X.M A (ksk_tree D kf false) R E { s with heap:=h1 }:=by
 have hlen:=rs.length;obtain⟨e1,ho1⟩:∃e1,(h1.update D (Obj.mapSeq λ_=>(#[]:Array Value))).get? D=some (Hv "list" #[] e1):=⟨_,Hw hoL λ_=>#[]⟩
 have sb1:=Heap.SameBut.update h1 D (Obj.mapSeq λ_=>(#[]:Array Value));have hkS:((h1.update D (Obj.mapSeq λ_=>(#[]:Array Value))).push (Hv "tuple" vs.toArray 0)).objs.size=s.heap.objs.size+3:=by rw[size_push',Heap.size_update,hs1]
 unfold ksk_tree;refine G7 (Hs hoL rfl ?_);refine G7 (Hr hoL rfl ?_ (by rw[fZ,Hb];exact zeZ hm hlen) (fV _));refine G7 (seqEpoch_at ho1 rfl ?_);refine G7 (wpAny_newTuple ?_ (by show vs.length<=_;rw[Hb];exact zeZ hm hlen));refine G7 (Hf ?_ (fV _));refine Ha ?_;obtain⟨h0,hh0⟩:∃x,x=((h1.update D (Obj.mapSeq λ_=>(#[]:Array Value))).push (Hv "tuple" vs.toArray 0)).push (Hv "list" #[] 0):=⟨_,rfl⟩
 show wpAny X.M A (ksk_rest D kf false vs.toArray e1 (.ref ((h1.update D (Obj.mapSeq λ_=>(#[]:Array Value))).push (Hv "tuple" vs.toArray 0)).objs.size)) _ E { s with heap:=((h1.update D (Obj.mapSeq λ_=>(#[]:Array Value))).push (Hv "tuple" vs.toArray 0)).push (Hv "list" #[] 0) };obtain⟨kS,hkSe⟩:∃kS,kS=s.heap.objs.size+3:=⟨_,rfl⟩
 have hk0:h0.get? kS=some (Hv "list" #[] 0):=by rw[hh0,hkSe,<-hkS];exact Heap.get?_push_size _ rfl
 have ha0:h0.get? D=some (Hv "list" #[] e1):=by rw[hh0];exact Heap.get?_push_of_some _ (Heap.get?_push_of_some _ ho1)
 have keep0:∀b o,s.heap.get? b=some o->h0.get? b=some o:=λb o e=>by
  have hlt:b<s.heap.objs.size:=Heap.lt_size e;rw[hh0];exact Heap.get?_push_of_some _ (Heap.get?_push_of_some _ ((sb1.2 b (zta hD hlt)).trans (keep b o e)))
 have hs0:s.heap.objs.size<=h0.objs.size:=by rw[hh0,size_push',hkS];exact zzt
 rw[hkS,<-hkSe,<-hh0];have oD:=qf a (b:=D) (zo8 hD);have oK:=qf a (b:=kS) (zwB hkSe);have hDK:kS≠D:=zBE hD hkSe;have fK:kS∉X.fr:=zfb a (zwB hkSe);have fD:D∉X.fr:=zfb a (zo8 hD);clear hh0 hkS ho1 sb1 hoL keep hs1;have a0:At X O { s with heap:=h0 }:=a.grown s.toks keep0;have st0:Step (λb=>b=D\/b=kS) O s O { s with heap:=h0 }:=.same (λb o e _=>keep0 b o e) hs0;have noB:NoStay (λb=>b=D\/b=kS) s.heap:=by
  rintro b o (h|h) e _<;>exact absurd (Heap.lt_size e) (by (first|exact zBR hD h|exact zBS hkSe h))
 have noD:∀{o:Obj} {b:Array Value} {e:Nat},o=Hv "list" b e->∀es n,o.data≠.dict es n:=by
  rintro o b e rfl es n h;cases h
 have noSt:∀{o:Obj} {b:Array Value} {e:Nat},o=Hv "list" b e->¬qu o:=by
  rintro o b e rfl (⟨h,_⟩|⟨h,_⟩|⟨c,vs,h,_⟩)
  .simp[Hv] at h
  .simp[Hv] at h
  .simp[Hv] at h
 unfold ksk_rest;refine G7 (Hc ?_)
 first
  | rw[List.forIn_toArray]
  | (rw[<-fCA];simp only[List.toList_toArray])
  | rw[<-fCA]
 refine G7 (ksk_fold (λj s'=>∃O' kA e,(vis O'=vis O/\O' D=none/\O' kS=none)/\At X O' s'/\Step (λb=>b=D\/b=kS) O s O' s'/\s'.heap.get? kS=some (Hv "list" kA e)/\s'.heap.get? D=some (Hv "list" #[] e1)/\RepVs O' s'.heap ((xs.take j).map key) kA.toList) vs 0 _
  (zaP O (#[]) 0 (zp rfl oD.1 oK.1) a0 st0 hk0 ha0 .nil) ?step ?done)
 case step=>
  intro j v s' hv hR1;refine jc hR1 λO' kA e h2_3 a' st' hk' ha' rk=>?_;obtain⟨hvis,nD,nK⟩:=h2_3;have kv':=st'.keepV a noB;simp only[fAO] at rk ⊢;have hj:j<vs.length:=(fX.mp hv).1;have hjx:j<xs.length:=zwU hlen hj;obtain⟨x,hx⟩:∃x,xs[j]? = some x:=⟨_,fJ hjx⟩
  refine zb (rs.get hx) λv' hv' rx=>?_;rw[hv] at hv';obtain rfl:=Hx hv';have hxm:=pT hx;have hz:kA.size=j:=by
   have h1:=rk.length;simp only[fC,fAT,gB] at h1;exact zCZ hlen hj h1
  refine G7 (wpAny_attempt (G9 (hk x hxm O' s' v hvis a' (rx.mono kv')) (λk s2 hr=>?_) λ_ _ h=>h.elim));refine zq hr λav σ2 rv a2 st2 e15_5 hσ=>?_;subst e15_5;have kv2:=st2.keepV0 a';have hk2:=st2.keep kS _ hk' nK (λh=>h) (noD rfl);have ha2:=st2.keep D _ ha' nD (λh=>h) (noD rfl);have nD2:=st2.gone ha' nD;have nK2:=st2.gone hk' nK;have sb:=Heap.SameBut.update s2.heap kS (Obj.mapSeq (·.push k));obtain⟨c2,hc2⟩:∃c2,(s2.heap.update kS (Obj.mapSeq (·.push k))).get? kS=some (Hv "list" (kA.push k) c2):=⟨_,Hw hk2 (·.push k)⟩
  have kv3:KeepV σ2 s2.heap σ2 (s2.heap.update kS (Obj.mapSeq (·.push k))):=.mk' λb o ho st=>by
   by_cases hb:b=kS
   .subst hb;rw[hk2] at ho;exact absurd st (noSt (Hx ho).symm)
   .rw[sb.2 b hb];exact ho
  try dsimp only
  refine G7 (Hr hk2 rfl ?_ (by rw[Hb];exact zCV hm hlen hj hz) (fE (pF (Array.size_push ..)) (by rw[Hb];exact zCU hm hlen hj hz)));refine G8 (zf7 rfl σ2 (kA.push k) c2 (zp hσ nD2 nK2) (At.aside a2 s2.toks nK2 oK.2.1 (λo ho=>by rw[hk2] at ho;exact noSt (Hx ho).symm) (λq=>absurd q fK) sb) ((st'.trans (st2.weaken λ_ h=>h.elim)).trans (Step.aside s2.toks (.inr rfl) sb)) hc2 ((sb.2 D hDK.symm).trans ha2) ?_);have ek:xs.take (j+1)=xs.take j++[x]:=by rw[fAN,hx];simp
  rw[ek,fW,gE];exact((rk.mono kv2).mono kv3).append (.cons (rv.mono kv3) .nil)
 case done=>
  intro s' hR2;refine jc hR2 λO' kA e h3_3 a' st' hk' ha' rk=>?_;obtain⟨hvis,nD,nK⟩:=h3_3;have e3:xs.take (0+vs.length)=xs:=fAL (zz5 hlen);rw[e3] at rk
  try dsimp only
  refine G7 (Hs hk' rfl ?_);have hks:kA.size=vs.length:=by have h1:=rk.length;simp only[fC,gB] at h1;exact zBT hlen h1
  have kv':=st'.keepV a noB;have rs':=rs.mono kv';rw[<-hvis] at hlt q;have z:=zpc (key:=key) rs' rk;have ez:(kA.zip vs.toArray).toList=kA.toList.zip vs:=ksk_zip kA vs;rw[<-ez] at z;obtain⟨YK,hρ⟩:=zfw a' hlt
  -- the tail: any order of the pairs that is sorted
  have tail:∀st:SortSt,(Ht st).Perm (kA.zip vs.toArray)->failedOf st=none->((Ht st).toList.Pairwise λx y=>YK x.1<=YK y.1)->
    wpAny X.M A (ksk_tail D false e1 (.ref kS) st) R E s':=by
   intro st hp hf hs;refine zb (z.perm (fAM.mp hp)) λys hy1 hy2=>?_;have hys:ys.Pairwise λx y=>Y x<=Y y:=hy2.pair (λy hy pp hpp=>hρ y (hy1.mem_iff.mp hy) _ hpp.2) hs;have s1:=Heap.SameBut.update s'.heap kS (Obj.mapSeq λ_=>(#[]:Array Value));have na1:(s'.heap.update kS (Obj.mapSeq λ_=>(#[]:Array Value))).get? D=some (Hv "list" #[] e1):=(s1.2 D hDK.symm).trans ha';have s2:=Heap.SameBut.update (s'.heap.update kS (Obj.mapSeq λ_=>(#[]:Array Value))) D (Obj.mapSeq λ_=>(Ht st).map (·.2));obtain⟨c2,hc2⟩:∃c2,((s'.heap.update kS (Obj.mapSeq λ_=>(#[]:Array Value))).update D (Obj.mapSeq λ_=>(Ht st).map (·.2))).get? D=some (Hv "list" ((Ht st).map (·.2)) c2):=⟨_,Hw na1 λ_=>(Ht st).map (·.2)⟩
   have hasz:((Ht st).map (·.2)).size=vs.length:=by
    have h1:(Ht st).size=(kA.zip vs.toArray).size:=hp.size_eq;rw[Array.size_zip,hks,fZ] at h1;rw[fDW];exact h1.trans (Nat.min_self _)
   unfold ksk_tail
   try dsimp only
   refine G7 (Hr hk' rfl ?_ (by rw[Hb];exact zBL hm hlen hks) (fV _));refine G7 (wpAny_letGo ?_);refine G7 (seqEpoch_at na1 rfl ?_);refine G7 (Hr na1 rfl ?_ (fV _) (fE (pF hasz) (by rw[Hb];exact zAu hm hlen)));rw[hf];simp only[bne_self_eq_false,gC,if_false];refine G8 (hR _ _ ?_);obtain⟨H2,hH2⟩:∃x,x=(s'.heap.update kS (Obj.mapSeq λ_=>(#[]:Array Value))).update D (Obj.mapSeq λ_=>(Ht st).map (·.2)):=⟨_,rfl⟩
   rw[<-hH2] at hc2 s2 ⊢;have same:∀b,b≠D->b≠kS->H2.get? b=s'.heap.get? b:=λb h1 h2=>(s2.2 b h1).trans (s1.2 b h2);have kv4:KeepV O' s'.heap O' H2:=.mk' λb o ho st=>by
    rw[same b (λe=>by rw[e,ha'] at ho;exact absurd st (noSt (Hx ho).symm)) (λe=>by rw[e,hk'] at ho;exact absurd st (noSt (Hx ho).symm))];exact ho
   have aa:=At.aside a' s'.toks nK oK.2.1 (λo ho=>by rw[hk'] at ho;exact noSt (Hx ho).symm) (λq=>absurd q fK) s1;have ab:At X O' { s' with heap:=H2 }:=At.aside aa s'.toks nD oD.2.1 (λo ho=>by rw[na1] at ho;exact noSt (Hx ho).symm) (λq=>absurd q fD) s2;have hS2:s.heap.objs.size<=H2.objs.size:=by rw[hH2,Heap.size_update,Heap.size_update];exact st'.size
   have stE:Step E0 O s O' { s' with heap:=H2 }:=⟨λb o e h1 _ hd=>by
     have hlt:b<s.heap.objs.size:=Heap.lt_size e;show H2.get? b=_;rw[same b (zta hD hlt) (zwT hkSe hlt)];exact st'.keep b o e h1 (by rintro(h|h)<;>(first|exact zwO hD hlt h|exact zwP hkSe hlt h)) hd,λb o e h1 _=>by
     have hlt:b<s.heap.objs.size:=Heap.lt_size e;obtain⟨sl,h⟩:=st'.keepD b o e h1 (by rintro(h|h)<;>(first|exact zwO hD hlt h|exact zwP hkSe hlt h));exact⟨sl,(same b (zta hD hlt) (zwT hkSe hlt)).trans h⟩,st'.fresh,hS2,st'.frz⟩
   obtain⟨av,ao,o1,o2,o3,o4⟩:=zoU (r:=r) (D:=D) (acc:=ys) (ys:=((Ht st).map (·.2)).toList) (n:=c2) (Q:=Q) (by
      unfold zJ;rw[fBX];exact hc2) (by
      have:=(zmK hy2).mono kv4;rwa [<-fDL] at this) (by rw[hy1.length_eq];exact hm) ab stE nD oD.2.1 fD (zo8 hD) (q ys hy1 hys)
   exact zn av _ o1 o2 o3 o4
  unfold ksk_end
  try dsimp only
  by_cases h2:vs.toArray.size<2
  .rw[if_pos h2,if_pos h2];refine G7 (G8 ?_);rw[StateT.run_pure];refine G7 (G8 ?_)
   try dsimp only
   refine tail (SortSt.mk' general' (kA.zip vs.toArray) #[] 7 none) (.refl _) rfl ?_;show (kA.zip vs.toArray).toList.Pairwise _;have:(kA.zip vs.toArray).toList.length<2:=by rw[ez,List.length_zip,gB,hks,Nat.min_self];simpa using h2
   exact zsB this
  .rw[if_neg h2,if_neg h2];have h3:2<=vs.length:=by simpa using h2
   have hzs:(kA.zip vs.toArray).size=vs.length:=by rw[Array.size_zip,hks,fZ,Nat.min_self]
   obtain⟨κ,H,kk⟩:=zpP (E:=E) a' room z rk (by rw[hks];exact h3) kd hlt hρ;have hB:SB κ (kA.zip vs.toArray) (SortSt.mk' κ (kA.zip vs.toArray) #[] 7 none):=⟨.refl _,rfl,rfl⟩
   have run:=zev (E:=E) (Q:=λ_ st'=>(Ht st').Perm (kA.zip vs.toArray)/\failedOf st'=none/\(Ht st').toList.Pairwise (λx y=>YK x.1<=YK y.1)) H hB rfl (by rw[hzs];exact h3) (by rw[hzs,<-hlen];exact hm) λst' hB' hs=>(zp hB'.perm hB'.failed (by
    have:=hB'.size;exact jS (Y:=λp=>YK p.1) (by rw[this];exact hs)))
   refine G7 (G9 kk (λκ s'' hκ=>?_) λ_ _ e=>e);obtain⟨rfl,rfl⟩:=hκ;refine G7 (G9 run (λr s'' hr=>?_) λ_ _ e=>e);obtain⟨⟨⟩,st2⟩:=r;refine zw hr λe42_0 hp2 hf2 hs2=>?_;subst e42_0;exact tail st2 hp2 hf2 hs2
open Classical in
theorem zeC{X:Cx}{kf:Value}{d:Dp}{A:Around}{O:AHeap}{s:Shared}{x0:AV}{v0:Value}{r:Bool}{xs:List AV}{key:AV->AV}{Y:AV->Nat}{Q:zk}{E:Value->Shared->Prop}(L:Live X d A)(a:At X O s)(hx0:zS (vis O) x0=some xs)(rv0:RepV O s.heap x0 v0)(hkt:∀p:Addr,Builtin.«list.sort» ⟨[.ref p],[(Str.ofString "key",kf)]⟩=ksk_tree p kf false)
  (hk:∀x∈xs,zra X kf (vis O) A.in1.in1 x (key x))(kd:zdp (xs.map key))(hlt:∀x∈xs,∀y∈xs,zdq (vis O) (key x) (key y) (decide (Y x<Y y)))
  (q:∀ys:List AV,ys.Perm xs->ys.Pairwise (λx y=>Y x<=Y y)->mkL r ys Q (vis O)) :
  wpAny X.M A (call (.builtin "sorted") [v0] [(Str.ofString "key",kf)]) (liftQ X O s Q) E s:=by
 refine zq (a.isList (zK hx0) rv0) λp vs e13_2 hp hl rs hm=>?_;subst e13_2;have hlen:=rs.length;have room:=L.room;have u1:A.in1.in1.units=A.units+2:=by rw[Around.in1_units,Around.in1_units]
 refine call_function_entry_kw kind_sorted plain_sorted entry_sorted (ksk_s1 _ _) ?_;unfold Builtin.«sorted»;refine G7 (m:=checkCount "sorted" 1 1 _) (G8 ?_);refine G7 (collect_list hl ?_ (by rw[Hb];exact zeZ hm hlen));refine G7 (Hf ?_ (by rw[Hb];exact zeZ hm hlen));have hsz:((s.heap.push (Hv "list" #[] 0)).update s.heap.objs.size (Obj.mapSeq (·++vs.toArray))).objs.size=s.heap.objs.size+1:=by
  rw[Heap.size_update,size_push']
 obtain⟨h1,hh1⟩:∃x,x=((s.heap.push (Hv "list" #[] 0)).update s.heap.objs.size (Obj.mapSeq (·++vs.toArray))).push (Hv "list" vs.toArray 0):=⟨_,rfl⟩
 have hoL:h1.get? (s.heap.objs.size+1)=some (Hv "list" vs.toArray 0):=by
  rw[hh1,<-hsz];exact Heap.get?_push_size _ rfl
 have hs1:h1.objs.size=s.heap.objs.size+2:=by rw[hh1,size_push',hsz]
 have keep:∀b o,s.heap.get? b=some o->h1.get? b=some o:=λb o q=>by
  have hlt:b<s.heap.objs.size:=Heap.lt_size q;rw[hh1,Heap.get?_push_ne _ _ _ (by rw[hsz];exact gS (fCI hlt)),Heap.get?_update_ne _ _ _ _ (gS hlt),Heap.get?_push_ne _ _ _ (gS hlt)];exact q
 show wpAny _ _ _ _ _ { s with heap:=((s.heap.push (Hv "list" #[] 0)).update s.heap.objs.size (Obj.mapSeq (·++vs.toArray))).push (Hv "list" vs.toArray 0) };rw[hsz,<-hh1];refine G7 (Ha (wpAny_call_entry_kw slot_list_sort (zd _ hoL rfl) entry_list_sort ?body (ksk_l1 _ _)))
 case body=>
 rw[hkt];exact zjI (by rw[u1];exact zzR room) a rs hm rfl hs1 hoL keep hk kd hlt q λv s' h=>zd _ rfl (G8 (zd _ rfl h))
section
variable{X:Cx}{K:Frag}{env:Env}{nm:List (Str×Nat)}{names:List (Str×NameKind)}
theorem zqL{r:Bool}{e:Expr}{m:AE}{g:Str}{f:Addr}{o:Obj}{fd:FuncData}{gp lp kp pos:Pos}(G:Gd X K)(E:EK env names)(hb:zlt K "sorted" (.builtin "sorted"))(hg:qA names "sorted" = true)(hf:nsIn K Hl g=some (some (.ref f)))(ho:K.lookup f=some o)(hfd:o.data = .func fd)(hgK:qA names g=true)(hs:jg e=true)(h:zg X env nm e m) :
  zg X env nm (.Call (.Name "sorted" gp) [e] [⟨some "key",.Name g lp,kp⟩] pos) (A.w5 X f r m):=λd A l O s Q Z L a F q=>by
 show wpAny X.M A (do callWith pos (<-eval (.Name "sorted" gp) env) [] (backTo pos (starEach [e] env)) (backToKw pos (keywordEach [⟨some "key",.Name g lp,kp⟩] env))) _ _ s;refine G7 (z7 G.ok E.eo a (E.glob hg).1 (by decide) (G.none hb) (G.some hb) ?_);have he:backTo pos (starEach [e] env)=(false,eval e env)::backTo pos (starEach [] env):=by rw[zz hs];rfl
 refine callWith_kw ?_ he (by rw[he];rfl);rw[he];refine Calls.spliced_cons (kR (h d A l O s _ Z L a F q) λav v σ1 s1 rv a1 st1 q1=>?_);refine Calls.spliced_nil ?_;refine kws_cons (zbf G.ok E.eo a1 (E.glob hgK).1 (E.glob hgK).2 (mg_of G.inn G.ok.g hf) (kws_nil ?_));refine zb (zf q1) λxs hx q1=>?_;unfold zeA at q1;refine zq q1 λkey Y hd hk kd hlt q2=>?_;have L2:Live X ⟨d.n+1,d.hd⟩ A.in1.in1:=⟨by have:=L.depth;show A.depth<=301+(d.n+1);exact zz9 this,by have:=L.units;rw[Around.in1_units,Around.in1_units];show _<=20+8*(d.n+1);exact zz7 this,L.handled,by show d.n+1<=600;lia,L.frames⟩
 refine jO st1 (zeC L a1 hx rv (λp=>ksk_t1 _ _) (λx hx σ2 s2 v2 hv a2 r2=>?_) (.inl λy hy=>?_) hlt q2)
 .have:=hk x hx;rw[<-hv] at this;refine G9 (this.call L2 a2 (.cons r2 .nil)) (λk s3 hr=>?_) λe s3 hr=>?_
  .refine zq hr λav σ3 h1 h2 h3 h4 h5=>?_;exact ja av σ3 h1 h2 h3 h4 (h5.trans hv)
  .refine jI hr λc σ3 x g _ _ _ _ _ hF=>?_;exact hF
 .refine zb (fG.mp hy) λx hx e48_2=>?_;subst e48_2;exact kd x hx
theorem zmz{r:Bool}{e:Expr}{m:AE}{gp lp kp pos:Pos}(G:Gd X K)(E:EK env names)(hb:zlt K "sorted" (.builtin "sorted"))(hbL:zlt K "len" (.builtin "len"))(hg:qA names "sorted" = true)(hgL:qA names "len" = true)(hs:jg e=true)(h:zg X env nm e m) :
  zg X env nm (.Call (.Name "sorted" gp) [e] [⟨some "key",.Name "len" lp,kp⟩] pos) (A.wZ r m):=λd A l O s Q Z L a F q=>by
 show wpAny X.M A (do callWith pos (<-eval (.Name "sorted" gp) env) [] (backTo pos (starEach [e] env)) (backToKw pos (keywordEach [⟨some "key",.Name "len" lp,kp⟩] env))) _ _ s;refine G7 (z7 G.ok E.eo a (E.glob hg).1 (by decide) (G.none hb) (G.some hb) ?_);have he:backTo pos (starEach [e] env)=(false,eval e env)::backTo pos (starEach [] env):=by rw[zz hs];rfl
 refine callWith_kw ?_ he (by rw[he];rfl);rw[he];refine Calls.spliced_cons (kR (h d A l O s _ Z L a F q) λav v σ1 s1 rv a1 st1 q1=>?_);refine Calls.spliced_nil ?_;refine kws_cons (z7 G.ok E.eo a1 (E.glob hgL).1 (by decide) (G.none hbL) (G.some hbL) (kws_nil ?_));refine zb (zf q1) λxs hx q1=>?_;unfold zci at q1;obtain⟨ht,q2⟩:=q1;refine jO st1 (zeC (key:=λx=>.int (zj1 x)) (Y:=zj1) L a1 hx rv (λp=>ksk_t4 _ _) (λx hx σ2 s2 v2 hv a2 r2=>?_) (.inr λy hy=>?_) (λx hx y hy=>?_) q2)
 .obtain⟨l,rfl⟩:=ht x hx;refine zh (RepV.wH r2) λb vs e53_2 hl it rs=>?_;subst e53_2;have hlen:=rs.length;have e:(vs.toArray.size:Int)=(zj1 (.tup l):Nat):=by simp[zj1,hlen]
  refine len_tuple it (by simp;exact zs6 hl hlen) ?_;rw[e];exact zax a2 (.int _ _) ⟨rfl,hv⟩
 .refine zb (fG.mp hy) λx hx e54_2=>?_;subst e54_2;exact⟨_,rfl⟩
 .refine ja _ _ (.int _) (.int _) (fV _) (fV _) ?_;simp[zcO,znX,zd5]
end
@[irreducible] noncomputable def zcj(r:Bool)(xs:List AV)(Q:zk)(O:AHeap):Prop:=∃ns:List Int,xs=ns.map .int/\NsOk ns/\∀ys:List Int,ys.Pairwise (· < ·)->(∀k,k∈ys↔k∈ns)->mkL r (ys.map .int) Q O
def zem:zbq:=λd r as Q O=>A.wY d (zbi as λx=>zm (zS O x) λxs=>zcj r xs Q O)
def zhU:zbq:=λd r as Q O=>A.wY d (zbi as λx=>zm (zS O x) λxs=>mkL r xs.reverse Q O)
theorem zh3{O:AHeap}{h:Heap}{ns:List Int}{vs:List Value}(r:RepVs O h (ns.map .int) vs):∀(i:Nat) v,vs.toArray[i]? = some v->zkb ns i v:=by
 induction ns generalizing vs with
 | nil=>cases r;exact λi v e=>by simp at e
 | cons n ns ih=>
  cases r with
  | cons a r=>
   intro i v e;rw[fAS] at e;cases i with
   | zero=>cases e;obtain⟨t,rfl⟩:=RepV.wC a;exact⟨t,rfl⟩
   | succ i=>exact ih r i v (by rw[fAS];exact e)
theorem zos{O:AHeap}{h:Heap}{vs:List Value}(hv:∀v∈vs,∃t,v = .int (qG v) t):RepVs O h ((vs.map qG).map .int) vs:=by
 induction vs with
 | nil=>exact .nil
 | cons v vs ih=>
  obtain⟨t,e⟩:=hv v fB;refine .cons ?_ (ih λw hw=>hv w (fA _ hw));rw[e];exact .int _ _
section
variable{X:Cx}{env:Env}{nm:List (Str×Nat)}
theorem zeX{r:Bool}{e:Expr}{m:AE}{gp gp2 pos2 pos:Pos}(XO:X.Ok)(EO:EnvOk env)(hx:env.kindOf "sorted" = some .globalImplicit)(hn:X.mg "sorted" = none)(hv:X.mb "sorted" = some (.builtin "sorted"))
  (hxT:env.kindOf "set" = some .globalImplicit)(hnT:X.mg "set" = none)(hvT:X.mb "set" = some (.type "set"))(h:SoundEs X env nm [e] [m]) :
  zg X env nm (.Call (.Name "sorted" gp) [.Call (.Name "set" gp2) [e] [] pos2] [] pos) (A.prim zem r [m]):=λd A l O s Q Z L a F q=>by
 refine Call_ (z7 XO EO a hx (by decide) hn hv ?_);refine Calls.callWith_builtin ?_ ?_
 .rw[zz rfl];rfl
 rw[zz rfl];refine Calls.evalArgs_plain ?_;refine Calls.spliced_cons (Call_ (z7 XO EO a hxT (by decide) hnT hvT ?_));refine PyProof.Rows.callWith_type h.plain (jF h L a F q λvs s1 hpx=>?_);refine zh hpx λavs σ1 rv a1 st q1=>?_;obtain⟨hd,q1⟩:=zak q1;refine zb (jT q1) λx e1 q1=>?_;subst e1;refine zb (zf q1) λxs hx0 q1=>?_;unfold zcj at q1;obtain⟨ns,rfl,hns,q2⟩:=q1;refine zb (qD rv) λv e2 rv1=>?_;subst e2;refine zq (a1.isList (zK hx0) rv1) λp vs e3 hp hl rs hm=>?_;subst e3;have hh:=L.handled hd;have hlen:vs.toArray.size=ns.length:=by rw[fZ,<-rs.length,fC]
 refine zD (ztJ hh hl hns hlen (zh3 rs) λh2 tk2 hS hk hsz=>?_);refine Calls.spliced_nil (zD (znt hh hns.len hS λh3 tk3 D vs' c hD hk3 hin hpw hmem hl8 ho3 hsz3=>?_));exact liftQ.back st (kL (t:=tk3) (xs:=(vs'.map qG).map .int) a1 (λb o e=>hk3 b o (hk b o e)) (fE hsz hD) ho3 (zos hin) (by rw[fC,fC];exact fE hl8 (by decide)) (fE hsz hsz3) (q2 _ hpw hmem))
theorem zjW{r:Bool}{e:Expr}{m:AE}{gp gp2 pos2 pos:Pos}(XO:X.Ok)(EO:EnvOk env)(hx:env.kindOf "list" = some .globalImplicit)(hn:X.mg "list" = none)(hv:X.mb "list" = some (.type "list"))
  (hxT:env.kindOf "reversed" = some .globalImplicit)(hnT:X.mg "reversed" = none)(hvT:X.mb "reversed" = some (.type "reversed"))(h:SoundEs X env nm [e] [m]) :
  zg X env nm (.Call (.Name "list" gp) [.Call (.Name "reversed" gp2) [e] [] pos2] [] pos) (A.prim zhU r [m]):=λd A l O s Q Z L a F q=>by
 refine Call_ (z7 XO EO a hx (by decide) hn hv ?_);refine PyProof.Rows.callWith_type ?_ ?_
 .rw[zz rfl];rfl
 rw[zz rfl];refine Calls.evalArgs_plain ?_;refine Calls.spliced_cons (Call_ (z7 XO EO a hxT (by decide) hnT hvT ?_));refine PyProof.Rows.callWith_type h.plain (jF h L a F q λvs s1 hpx=>?_);refine zh hpx λavs σ1 rv a1 st q1=>?_;obtain⟨hd,q1⟩:=zak q1;refine zb (jT q1) λx e1 q1=>?_;subst e1;refine zb (zf q1) λxs hx0 q2=>?_;refine zb (qD rv) λv e2 rv1=>?_;subst e2;refine zq (a1.isList (zK hx0) rv1) λp vs e3 hp hl rs hm=>?_;subst e3;have hh:=L.handled hd;have hlen:=rs.length;have hp:p<s1.heap.objs.size:=by obtain⟨o,ho,_⟩:=id hl;exact Heap.lt_size ho
 refine call_reversed_list hl ?_;refine Calls.spliced_nil (zD (zot (s:={ s1 with heap:=s1.heap.push (revObj p ((vs.toArray.size:Int)-1)) }) hh ⟨_,Heap.get?_push_size _ rfl,rfl,rfl⟩ (hl.push _) (gS hp) (by rw[fZ,Hb];exact zeZ hm hlen) λh3 tk3 acc c hk ho3 hit hsz=>?_));have kp:∀b o,s1.heap.get? b=some o->h3.get? b=some o:=λb o e=>hk b o (gS (Heap.lt_size e)) (Heap.get?_push_of_some _ e);have ha:acc.toList=vs.reverse:=by
  refine fBR λi=>?_;rw[gK];cases he:acc[i]? with
  | some v=>
   have hi:i<acc.size:=(pO.mp he).1;have hs:acc.size=vs.length:=hit.1;have:vs.toArray[vs.toArray.size-1-i]? = some v:=hit.2 i v he;rw[fAS,fZ] at this;rw[List.getElem?_reverse (by exact zvy hi hs)];exact this.symm
  | none=>
   have hi:=fC6.mp he;have hs:acc.size=vs.length:=hit.1;rw[fAF (by rw[List.length_reverse,<-hs];exact hi)]
 have sz1:s1.heap.objs.size<=(s1.heap.push (revObj p ((vs.toArray.size:Int)-1))).objs.size:=by rw[size_push'];exact fA7 _
 refine liftQ.back st (kL (t:=tk3) (vs:=vs.reverse) (n:=c) a1 kp sz1 ?_ ?_ (by rw[List.length_reverse];exact hm) (fE sz1 hsz) q2)
 .rw[<-ha];unfold zJ;rw[fBX];exact ho3
 .exact RepVs.reverse (rs.mono (.ext kp))
end
structure CT where
 K:Frag
 C:Addr
 refs:List (Nat×Nat)
 names:List (Str×NameKind)
 nm:List (Str×Nat)
 ex:List (Addr×List Addr)
noncomputable def CT.r(c:CT)(p:Pos):Bool:=c.refs.any λq=>Nat.beq q.1 p.line&&Nat.beq q.2 p.col
noncomputable def zgn(v:Option (Option Value)):Bool:=match v with
 | some none=>true
 | _=>false
noncomputable def biB(K:Frag)(names:List (Str×NameKind))(x:Str)(v:Value):Bool:=
 qA names x&&zgn (nsIn K Hl x)&&bootBuiltins x==some v&&!(x==("__name__" : Str))
structure PrimS where
 name:Str
 val:Value
 prim:zbq
noncomputable def prims:List PrimS:=[⟨"len",.builtin "len",kN⟩,⟨"range",.type "range",qn⟩,⟨"list",.type "list",zok⟩,⟨"tuple",.type "tuple",zen⟩,⟨"max",.builtin "max",zqi⟩,⟨"min",.builtin "min",zol⟩,⟨"sum",.builtin "sum",zqj⟩,⟨"sorted",.builtin "sorted",zb7⟩]
noncomputable def pyTs:List (Str×PyT):=[("tuple",.tuple),("str",.str),("int",.int),("bool",.bool),("list",.list),("dict",.dict)]
structure MethS where
 name:Str
 id:String
 meth:zcC
noncomputable def meths:List MethS:=[⟨"append","list.append",jJ⟩,⟨"pop","list.pop",zsn⟩]
def A.no:AE:=λ_ _ _ _ _=>False
def A.noI:AI:=λ_ _ _ _ _=>False
noncomputable def hh0:Nat:=0
noncomputable def hh1:Nat:=hh0
noncomputable def hh2:Nat:=hh1
noncomputable def hh3:Nat:=hh2
noncomputable def hh4:Nat:=hh3
noncomputable def hh5:Nat:=hh4
noncomputable def hh6:Nat:=hh5
noncomputable def hh7:Nat:=hh6
noncomputable def hh8:Nat:=hh7
noncomputable def hh9:Nat:=hh8
noncomputable def zxL:Nat:=hh9
noncomputable def zxM:Nat:=zxL
noncomputable def zxN:Nat:=zxM
noncomputable def zxO:Nat:=zxN
noncomputable def zxP:Nat:=zxO
noncomputable def zxQ:Nat:=zxP
noncomputable def zxR:Nat:=zxQ
noncomputable def zxS:Nat:=zxR
noncomputable def zxT:Nat:=zxS
noncomputable def zxU:Nat:=zxT
noncomputable def zxV:Nat:=zxU
noncomputable def zxW:Nat:=zxV
noncomputable def zxX:Nat:=zxW
noncomputable def zxY:Nat:=zxX
noncomputable def low{β:Type}(z:β):β:=(λ_:Nat=>z) zxY
noncomputable def ck{β:Type}(z:β)(b:Bool)(m:β):β:=match b with
 | true=>m
 | false=>low z
noncomputable def op{J β:Type}(z:β)(o:Option J)(f:J->β):β:=match o with
 | some a=>f a
 | none=>low z
abbrev Go:=Expr->AE
noncomputable def zri(v:Option (Option Value)):Option Int:=match v with
 | some (some (.int i _))=>some i
 | _=>none
def zm1(ct:CT)(x:Str):AE:=match zdY ct.names x&&!(x==("__debug__" : Str)) with
 | true=>op A.no (ct.nm.lookup x) A.loc
 | false=>ck A.no (qA ct.names x) (op A.no (zri (nsIn ct.K Hl x)) λi=>A.k (.int i))
def zmZ(c:Const):AE:=match c with
 | .int i=>A.k (.int i)
 | .str s=>op A.no (kb s) λn=>A.k (.str n)
 | .none=>A.k .none
 | .bool b=>A.k (.bool b)
 | _=>A.no
noncomputable def zoh(ops:List CmpOp)(es:List Expr):Bool:=match ops with
 | []=>false
 | op::ops=>match es with
  | []=>false
  | e::es=>match ops with
   | []=>es.isEmpty&&!behindInMarks op e
   | _::_=>zoh ops es
noncomputable def zsC(go:Go)(ops:List CmpOp)(es:List Expr):List (CmpOp×AE):=match ops with
 | []=>low []
 | op::ops=>match es with
  | []=>[]
  | e::es=>(op,go e)::zsC go ops es
def zty(go:Go)(r:Bool)(x:AE)(i:Expr):AE:=match i with
 | .Slice lo hi st _=>(match st with
  | none=>A.wS r x (lo.map go) (hi.map go)
  | some _=>A.no)
 | i=>ck A.no (zb6 i) (A.idx x (go i))
noncomputable def zqf(ks:List (Option Expr))(vs:List Expr):Bool:=match ks with
 | []=>vs.isEmpty
 | k::ks=>match vs with
  | []=>false
  | _::vs=>k.isSome&&zqf ks vs
noncomputable def rPs(go:Go)(ks:List (Option Expr))(vs:List Expr):List (AE×AE):=match ks with
 | []=>[]
 | k::ks=>match vs with
  | []=>[]
  | v::vs=>(op A.no k go,go v)::rPs go ks vs
noncomputable def znF(e:Option Expr):Bool:=match e with
 | some (.Constant (.str _) _ _)=>true
 | _=>false
def zm0(go:Go)(r:Bool)(ks:List (Option Expr))(vs:List Expr):AE:=
 match (match ks with|[]=>r|_::_=>ks.all znF)&&Nat.ble ks.length 15&&zqf ks vs with
 | true=>A.dic (rPs go ks vs)
 | false=>match ks with
  | []=>ck A.no vs.isEmpty A.dT0
  | k::ks=>match vs with
   | []=>A.no
   | v::vs=>ck A.no (ks.isEmpty&&vs.isEmpty) (op A.no k λk=>A.dT1 (go k) (go v))
noncomputable def zei(e:Expr):Option Str:=match e with
 | .Name x _=>some x
 | _=>none
noncomputable def tgN(ok:Str->Bool)(nm:List (Str×Nat))(e:Expr):Option Nat:=(zei e).bind λx=>if ok x then nm.lookup x else none
noncomputable def zuj(ok:Str->Bool)(nm:List (Str×Nat))(es:List Expr):Option (List Nat):=match es with
 | []=>some []
 | e::es=>(tgN ok nm e).bind λi=>(zuj ok nm es).map λis=>i::is
noncomputable def zrQ(ok:Str->Bool)(nm:List (Str×Nat))(e:Expr):Option Tgt:=match e with
 | .Tuple es _ _=>(zuj ok nm es).map .many
 | e=>(tgN ok nm e).map .one
noncomputable def zpJ:Expr->Bool
 | .Tuple ..=>true
 | _=>false
noncomputable def ziY(e:Expr):Option (Str×List Expr×List Keyword):=match e with
 | .Call f es kws _=>(zei f).map λx=>(x,es,kws)
 | _=>none
noncomputable def ziZ(e:Expr):Option Expr:=(ziY e).bind λp=>match p.2.1 with
 | []=>none
 | a::r=>if r.isEmpty&&p.2.2.isEmpty&&p.1==("enumerate" : Str) then some a else none
def zke(go:Go)(ct:CT)(target iter:Expr):AI:=match ziZ iter with
 | none=>A.itP (go iter)
 | some e=>ck A.noI (biB ct.K ct.names "enumerate" (.type "enumerate")&&jg e&&zpJ target) (A.itE (go e))
noncomputable def CT.inn(ct:CT)(ns:List (Str×NameKind)):CT:=⟨ct.K,ct.C,ct.refs,zkM ct.names ns,zX ct.nm (qV ct.nm) ns,ct.ex⟩
noncomputable def zrh(ifs:List Expr):Bool:=Nat.ble ifs.length 1
noncomputable def ztv(go:Go)(ifs:List Expr):Option AE:=match ifs with
 | []=>none
 | e::_=>some (go e)
noncomputable def zrV(ct:CT)(g:Comprehension)(scope:Scope):Bool:=g.is_async==0&&zkh ct.names ct.nm (qV ct.nm) scope.names&&scope.kind==.function&&zek g.iter&&zrh g.ifs
def zmY(go:CT->Go)(ct:CT)(r:Bool)(elt:Expr)(gens:List Comprehension)(scope:Scope):AE:=match gens with
 | []=>A.no
 | g::gs=>ck A.no (gs.isEmpty&&zrV ct g scope) (op A.no (zrQ (λx=>(ct.inn scope.names).names.lookup x==some .local) (ct.inn scope.names).nm g.target) λt=>
   A.lc r (zke (go ct) ct g.target g.iter) t (zcu scope.names) (ztv (go (ct.inn scope.names)) g.ifs) (go (ct.inn scope.names) elt))
noncomputable def zh2(v:Option (Option Value)):Option Addr:=match v with
 | some (some (.ref f))=>some f
 | _=>none
def ztw(go:Go)(ct:CT)(es:List Expr):AE:=match es with
 | []=>A.no
 | e::es=>match es with
  | []=>A.no
  | c::es=>ck A.no (biB ct.K ct.names "isinstance" (.builtin "isinstance")&&jg e&&es.isEmpty) (op A.no (zei c) λT=>match pyTs.lookup T with
   | some t=>ck A.no (biB ct.K ct.names T (.type t.name)) (A.isa t (go e))
   | none=>A.no)
def zxH(X:Cx)(K:Frag)(C:Addr)(ms:List AE):AE:=
 ck A.no (keepIn K (.ref C)&&makesIn K C) (op A.no (zh2 (findIn K (.ref C) "__init__")) λfI=>ck A.no (typeIn K (.ref fI)==some (.type "function")) (A.new X C fI ms))
noncomputable def zr7(es:List Expr):Option (Str×Expr):=match es with
 | []=>none
 | a::r=>if r.isEmpty then (ziY a).bind λp=>(match p.2.1 with
  | []=>none
  | b::r2=>if r2.isEmpty&&p.2.2.isEmpty&&jg b then some (p.1,b) else none) else none
noncomputable def ziu(g o i:Str)(es:List Expr):Option Expr:=(zr7 es).bind λp=>if g==o&&p.1==i then some p.2 else none
def ziN(X:Cx)(go:Go)(ct:CT)(g:Str)(es:List Expr)(pos:Pos):AE:=match g==("isinstance" : Str) with
 | true=>ztw go ct es
 | false=>match ziu g "sorted" "set" es with
 | some e=>ck A.no (biB ct.K ct.names "sorted" (.builtin "sorted")&&biB ct.K ct.names "set" (.type "set")) (A.prim zem (ct.r pos) [go e])
 | none=>match ziu g "list" "reversed" es with
 | some e=>ck A.no (biB ct.K ct.names "list" (.type "list")&&biB ct.K ct.names "reversed" (.type "reversed")) (A.prim zhU (ct.r pos) [go e])
 | none=>ck A.no (es.all jg) (match prims.find? (λp=>p.name==g) with
  | some p=>ck A.no (biB ct.K ct.names g p.val) (A.prim p.prim (ct.r pos) (es.map go))
  | none=>ck A.no (qA ct.names g) (op A.no (zh2 (nsIn ct.K Hl g)) λf=>match (zf3 ct.K f).isSome with
   | true=>A.wE X f (es.map go)
   | false=>zxH X ct.K f (es.map go)))
def zm3(X:Cx)(go:Go)(ct:CT)(g:Str)(es:List Expr)(kw:Keyword)(pos:Pos):AE:=match es with
 | []=>A.no
 | e::es=>ck A.no (g==("sorted" : Str)&&kw.arg==some ("key" : Str)&&biB ct.K ct.names "sorted" (.builtin "sorted")&&jg e&&es.isEmpty) (op A.no (zei kw.value) λk=>match k==("len" : Str) with
  | true=>ck A.no (biB ct.K ct.names "len" (.builtin "len")) (A.wZ (ct.r pos) (go e))
  | false=>ck A.no (qA ct.names k) (op A.no (zh2 (nsIn ct.K Hl k)) λf=>ck A.no (zf3 ct.K f).isSome (A.w5 X f (ct.r pos) (go e))))
def zrg(X:Cx)(go:Go)(ct:CT)(o:Expr)(name:Str)(apos:Pos)(es:List Expr)(pos:Pos):AE:=
 ck A.no (zcA o&&apos.endLine==pos.line&&decide (es.length<30)&&es.all jg) (match meths.find? (λm=>m.name==name) with
  | some m=>A.meth m.meth (go o) (es.map go)
  | none=>ck A.no (plainGet ct.K ct.C name) (op A.no (zh2 (findIn ct.K (.ref ct.C) name)) λf=>ck A.no (PySem.W.isFn ct.K (.ref f)&&(zf3 ct.K f).isSome) (A.wI X ct.C (kb name) f (go o) (es.map go))))
def zre(go:Go)(ct:CT)(o:Expr)(name:Str):AE:=
 ck A.no (zcA o&&plainGet ct.K ct.C name&&hasDictIn ct.K ct.C&&zgn (findIn ct.K (.ref ct.C) name)) (op A.no (kb name) λn=>A.wR ct.C n (go o))
def zrf(X:Cx)(go:Go)(ct:CT)(f:Expr)(es:List Expr)(kws:List Keyword)(pos:Pos):AE:=match f with
 | .Name g _=>(match kws with
  | []=>ziN X go ct g es pos
  | kw::r=>ck A.no r.isEmpty (zm3 X go ct g es kw pos))
 | .Attribute o name apos=>ck A.no kws.isEmpty (zrg X go ct o name apos es pos)
 | _=>A.no
def cE(X:Cx)(n:Nat)(ct:CT)(e:Expr):AE:=match n with
 | 0=>A.no
 | n+1=>match e with
  | .Name x _=>zm1 ct x
  | .Constant c _ _=>zmZ c
  | .BinOp a o b pos=>A.bin (ct.r pos) o (cE X n ct a) (cE X n ct b)
  | .UnaryOp o a _=>(match o with
   | .USub=>A.neg (cE X n ct a)
   | .Not=>A.wU (cE X n ct a)
   | _=>A.no)
  | .BoolOp o es _=>(match o with
   | .And=>zgN (es.map (cE X n ct))
   | .Or=>orL (es.map (cE X n ct)))
  | .Compare a ops es _=>ck A.no (zoh ops es) (A.cmp (cE X n ct a) (zsC (cE X n ct) ops es))
  | .Tuple es _ _=>ck A.no (es.all jg) (A.tup (es.map (cE X n ct)))
  | .List es pos=>ck A.no (es.all jg) (A.lst (ct.r pos) (es.map (cE X n ct)))
  | .Subscript a i pos=>zty (cE X n ct) (ct.r pos) (cE X n ct a) i
  | .ListComp elt gens scope pos=>zmY (cE X n) ct (ct.r pos) elt gens scope
  | .Attribute o name _=>zre (cE X n ct) ct o name
  | .Dict ks vs pos=>zm0 (cE X n ct) (ct.r pos) ks vs
  | .Call f es kws pos=>zrf X (cE X n ct) ct f es kws pos
  | _=>A.no
def ztx(X:Cx)(n:Nat)(ct:CT)(t v:Expr):AS:=match t with
 | .Name x _=>ck A.wL (zdY ct.names x) (op A.wL (ct.nm.lookup x) λi=>(match v with
   | .ListComp elt gens scope pos=>A.set i (zmY (cE X n) ct (ct.r pos) elt gens scope)
   | v=>ck A.wL (zdh v) (A.set i (cE X n ct v))))
 | .Attribute o name _=>ck A.wL (findIn ct.K (.ref ct.C) "__setattr__"==some (some (.builtin "object.__setattr__"))&&plainOver ct.K ct.C&&zgn (takerIn ct.K ct.C name)&&hasDictIn ct.K ct.C)
   (op A.wL (kb name) λk=>A.wT ct.C k (cE X n ct o) (cE X n ct v))
 | .Subscript o i _=>A.w6 (cE X n ct v) (cE X n ct o) (cE X n ct i)
 | _=>A.wL
def rSs(f:Stmt->AS)(ss:List Stmt):AS:=ss.foldr (λs r=>A.cons (f s) r) (low A.nil)
def cS(X:Cx)(n:Nat)(ct:CT)(s:Stmt):AS:=match n with
 | 0=>A.wL
 | n+1=>match s with
  | .Return v _=>(match v with
   | none=>A.vK
   | some e=>A.ret (cE X n ct e))
  | .Assign ts v _=>(match ts with
   | []=>A.wL
   | t::r=>ck A.wL r.isEmpty (ztx X n ct t v))
  | .Expr e _=>ck A.wL (zdh e) (A.ex (cE X n ct e))
  | .If t a b _=>A.if_ (cE X n ct t) (rSs (cS X n ct) a) (rSs (cS X n ct) b)
  | .While t a b _=>ck A.wL b.isEmpty (A.w0 (cE X n ct t) (rSs (cS X n ct) a))
  | .For tg it a b _=>ck A.wL (b.isEmpty&&zek it) (op A.wL (zrQ (zdY ct.names) ct.nm tg) λt=>A.fr (zke (cE X n ct) ct tg it) t (rSs (cS X n ct) a))
  | _=>A.wL
noncomputable def cF(X:Cx)(K:Frag)(C:Addr)(ex:List (Addr×List Addr))(f:Addr)(refs:List (Nat×Nat))(ps:List Str)(nm:List (Str×Nat)):Option AS:=(zf3 K f).bind λfd=>match fd.body with
 | .stmts body=>if fd.closure.isEmpty&&fd.globals==Hl&&fd.builtins==builtinsNs&&codeIn K fd.code fd.qualname&&zjv fd.scope.names nm ps&&fd.scope.kind==.function&&!fd.scope.isCoroutine&&!fd.scope.isGenerator then
   some (rSs (cS X 40 ⟨K,C,refs,fd.scope.names,nm,ex⟩) body) else none
 | _=>none
theorem zjg{J:Type}{c:Bool}{x:Option J}{b:J}(h:(if c then x else none)=some b):c=true/\x=some b:=by
 cases c with
 | true=>exact⟨rfl,h⟩
 | false=>cases h
theorem zM{a b:Bool}(h:(a&&b)=true):a=true/\b=true:=gO.mp h
theorem zqd{a:Bool}(h:(!a)=true):a=false:=by cases a with
 | true=>cases h
 | false=>rfl
theorem zaw{J:Type}{l:List J}(h:l.isEmpty=true):l=[]:=List.isEmpty_iff.mp h
theorem zdu{J β:Type}{o:Option J}{f:J->Option β}{b:β}(h:o.bind f=some b):∃a,o=some a/\f a=some b:=fAJ.mp h
theorem zp4{J β:Type}{o:Option J}{f:J->β}{b:β}(h:o.map f=some b):∃a,o=some a/\f a=b:=pY.mp h
theorem zP{β:Type}{z m:β}{b:Bool}{S:β->Prop}(hz:S z)(h:b=true->S m):S (ck z b m):=by cases b with
 | true=>exact h rfl
 | false=>exact hz
theorem q6{J β:Type}{z:β}{o:Option J}{f:J->β}{S:β->Prop}(hz:S z)(h:∀a,o=some a->S (f a)):S (op z o f):=by cases o with
 | some a=>exact h a rfl
 | none=>exact hz
section
variable{X:Cx}{env:Env}{ct:CT}
theorem zcy{v:Option (Option Value)}(h:zgn v=true):v=some none:=by
 cases v with
 | none=>exact nob h
 | some o=>cases o with
  | none=>rfl
  | some x=>exact nob h
theorem zcc{v:Option (Option Value)}{f:Addr}(h:zh2 v=some f):v=some (some (.ref f)):=by
 cases v with
 | none=>exact nos h
 | some o=>cases o with
  | none=>exact nos h
  | some x=>cases x with
   | ref a=>exact congrArg (λa=>some (some (Value.ref a))) (Hx h)
   | _=>exact nos h
theorem znB{v:Option (Option Value)}{i:Int}(h:zri v=some i):∃t,v=some (some (.int i t)):=by
 cases v with
 | none=>exact nos h
 | some o=>cases o with
  | none=>exact nos h
  | some x=>cases x with
   | int a t=>exact⟨t,congrArg (λa=>some (some (Value.int a t))) (Hx h)⟩
   | _=>exact nos h
theorem za9{e:Expr}{x:Str}(h:zei e=some x):∃p,e = .Name x p:=by
 cases e with
 | Name y p=>exact⟨p,congrArg (λa=>Expr.Name a p) (Hx h)⟩
 | _=>exact nos h
theorem kn{K:Frag}{names:List (Str×NameKind)}{x:Str}{v:Value}(h:biB K names x v=true):qA names x=true/\zlt K x v:=by
 obtain⟨h,h4⟩:=zM h;obtain⟨h,h3⟩:=zM h;obtain⟨h1,h2⟩:=zM h;refine⟨h1,zcy h2,beq_iff_eq.mp h3,λe=>?_⟩;rw[e] at h4;exact absurd h4 (by decide)
def zq8(X:Cx)(env:Env)(nm:List (Str×Nat))(e:Expr)(m:AE):Prop:=zg X env nm e m/\qz X env nm e m
def zbg(X:Cx)(env:Env)(nm:List (Str×Nat))(go:Go):Prop:=∀e,zq8 X env nm e (go e)
variable{nm:List (Str×Nat)}{go:Go}
theorem noE{e:Expr}:zg X env nm e A.no:=λ_ _ _ _ _ _ _ _ _ _ q=>q.elim
theorem noB{e:Expr}:qz X env nm e A.no:=λ_ _ _ _ _ _ _ _ _ _ q=>q.elim
theorem noI{t e:Expr}:zcn X env nm t e A.noI:=λ_ _ _ _ _ _ _ _ _ _ _ _ q=>q.elim
theorem q7{e:Expr}{m:AE}(he:∀whole,isTrue e env whole=(do let v <-whole;standAt e.pos;holding [v] (truthy v)))(h:zg X env nm e m):zq8 X env nm e m:=⟨h,zl7 h he⟩
theorem zgS(G:Gd X ct.K)(E:EK env ct.names){x:Str}{pos:Pos}:zg X env ct.nm (.Name x pos) (zm1 ct x):=by
 unfold zm1;cases hv:zdY ct.names x&&!(x==("__debug__" : Str)) with
 | true=>exact q6 noE λi hi=>zmk E.eo hi (E.var (zM hv).1) (zqd (zM hv).2)
 | false=>
  refine zP noE λh1=>q6 noE λi h2=>?_;obtain⟨t,e⟩:=znB h2;exact λd A l O s Q Z L a F q=>zbf G.ok E.eo a (E.glob h1).1 (E.glob h1).2 (mg_of G.inn G.ok.g e) (zbG a (.int _ _) q)
theorem zfS{c:Const}{k:Nat}{pos:Pos}:zg X env nm (.Constant c k pos) (zmZ c):=by
 cases c with
 | int i=>exact zmh
 | str s=>exact q6 noE λn hn=>zmt (jm hn).1 (jm hn).2
 | none=>exact zjT
 | bool b=>exact zjN
 | _=>exact noE
theorem zf0(H:zbg X env nm go)(es:List Expr):SoundEBs X env nm es (es.map go):=by
 induction es with
 | nil=>exact .nil
 | cons e r ih=>exact .cons (H e).1 (H e).2 ih
theorem zde(H:zbg X env nm go){es:List Expr}(h:es.all jg=true):SoundEs X env nm es (es.map go):=by
 induction es with
 | nil=>exact .nil
 | cons e r ih=>exact .cons (zM h).1 (H e).1 (ih (zM h).2)
theorem zoj(H:zbg X env nm go):∀{ops:List CmpOp} {es:List Expr},zoh ops es=true->SoundOps X env nm ops es (zsC go ops es):=by
 intro ops
 induction ops with
 | nil=>intro es h;cases h
 | cons o ops ih=>
  intro es h;cases es with
  | nil=>cases h
  | cons e es=>
   cases ops with
   | nil=>
    obtain⟨h1,h2⟩:=zM h;have:=zaw h1;subst this;exact .one (H e).1 (zqd h2)
   | cons o2 ops=>
    have:=ih h;cases es with
    | nil=>cases h
    | cons e2 es=>exact .cons (H e).1 this
theorem zkI(H:zbg X env nm go)(e:Option Expr):zfM X env nm e (e.map go):=by
 cases e with
 | none=>trivial
 | some e=>exact(H e).1
theorem ziR(H:zbg X env nm go){r:Bool}{a i:Expr}{x:AE}{pos:Pos}(hx:zg X env nm a x):zg X env nm (.Subscript a i pos) (zty go r x i):=by
 have other:zg X env nm (.Subscript a i pos) (ck A.no (zb6 i) (A.idx x (go i))):=zP noE λh=>zmg hx (H i).1 h;cases i with
 | Slice lo hi st p=>cases st with
  | none=>exact zif hx (zkI H lo) (zkI H hi)
  | some _=>exact noE
 | _=>exact other
theorem zt4(H:zbg X env nm go):∀{ks:List (Option Expr)} {vs:List Expr},zqf ks vs=true->SoundPs X env nm ks vs (rPs go ks vs):=by
 intro ks
 induction ks with
 | nil=>intro vs h;have:=zaw h;subst this;exact .nil
 | cons k ks ih=>
  intro vs h;cases vs with
  | nil=>cases h
  | cons v vs=>
   obtain⟨h1,h2⟩:=zM h;cases k with
   | none=>cases h1
   | some k=>exact .cons (H k).1 (H v).1 (ih h2)
theorem zgQ(XO:X.Ok)(H:zbg X env nm go){r:Bool}{ks:List (Option Expr)}{vs:List Expr}{pos:Pos}:zg X env nm (.Dict ks vs pos) (zm0 go r ks vs):=by
 unfold zm0;cases hc:(match ks with|[]=>r|_::_=>ks.all znF)&&Nat.ble ks.length 15&&zqf ks vs with
 | true=>exact zme XO (zt4 H (zM hc).2) (fAE (zM (zM hc).1).2)
 | false=>
  cases ks with
  | nil=>exact zP noE λh=>by have:=zaw h;subst this;exact zmc XO
  | cons k ks=>cases vs with
   | nil=>exact noE
   | cons v vs=>
    refine zP noE λh=>q6 noE λk' hk=>?_;have e1:=zaw (zM h).1;have e2:=zaw (zM h).2;subst e1 e2 hk;exact zmd XO (H k').1 (H v).1
theorem zoV{ok:Str->Bool}{e:Expr}{i:Nat}(h:tgN ok nm e=some i):∃x p,e = .Name x p/\ok x=true/\nm.lookup x=some i:=by
 obtain⟨x,h1,h2⟩:=zdu h;obtain⟨p,rfl⟩:=za9 h1;obtain⟨h3,h4⟩:=zjg h2;exact⟨x,p,rfl,h3,h4⟩
theorem zdy{B:Addr->Prop}{ok:Str->Bool}(EO:EnvOk env)(hB:∀b,B b->FB env b)(hok:∀x,ok x=true->Sto B env x){e:Expr}{t:Tgt}(h:zrQ ok nm e=some t):zaB B X env nm e t:=by
 have other:(tgN ok nm e).map Tgt.one=some t->zaB B X env nm e t:=λh=>by
  obtain⟨i,h1,rfl⟩:=zp4 h;obtain⟨x,p,rfl,h2,h3⟩:=zoV h1;exact zjM EO h3 (hok _ h2)
 cases e with
 | Tuple es k p=>
  obtain⟨is,h1,rfl⟩:=zp4 h;refine zic EO hB ?_;clear h other
  induction es generalizing is with
  | nil=>cases h1;exact .nil
  | cons e r ih=>
   obtain⟨i,h2,h3⟩:=zdu h1;obtain⟨is',h4,rfl⟩:=zp4 h3;obtain⟨x,p,rfl,h5,h6⟩:=zoV h2;exact .cons h6 (hok _ h5) (ih _ h4)
 | _=>exact other h
theorem ze4{e:Expr}{p:Str×List Expr×List Keyword}(h:ziY e=some p):∃fp pos,e = .Call (.Name p.1 fp) p.2.1 p.2.2 pos:=by
 cases e with
 | Call f es kws pos=>
  refine zb (zp4 h) λy h1 h2=>?_;refine jo (za9 h1) λnp e1=>?_;exact⟨np,pos,by rw[<-h2,e1]⟩
 | _=>exact nos h
theorem zld{e a:Expr}(h:ziZ e=some a):∃fp pos,e = .Call (.Name "enumerate" fp) [a] [] pos:=by
 refine zb (zdu h) λp h1 h2=>zY (ze4 h1) λnp pos e1=>?_;obtain⟨x,es,kws⟩:=p;cases es with
 | nil=>exact nos h2
 | cons b r=>
  refine qj (zjg h2) λh3 h4=>?_;refine qj (zM h3) λh3 h5=>qj (zM h3) λh3 h6=>?_;exact⟨np,pos,by rw[e1,zaw h3,zaw h6,Hx h4,H1 h5]⟩
theorem zcF(G:Gd X ct.K)(E:EK env ct.names)(H:zbg X env ct.nm go){target iter:Expr}:zcn X env ct.nm target iter (zke go ct target iter):=by
 unfold zke;cases hc:ziZ iter with
 | none=>exact zgC (H iter).1
 | some e=>
  refine zY (zld hc) λfp pos e1=>?_;subst e1;refine zP noI λh=>?_;obtain⟨h,h5⟩:=zM h;obtain⟨h1,h4⟩:=zM h;obtain⟨b1,b2⟩:=kn h1;cases target with
  | Tuple elts x1 tp=>exact zib G.ok E.eo (E.glob b1).1 (G.none b2) (G.some b2) h4 (H e).1
  | _=>exact nob h5
theorem ziO(H:zbg X env nm go){ifs:List Expr}(h:zrh ifs=true):zfL X env nm ifs (ztv go ifs):=by
 cases ifs with
 | nil=>trivial
 | cons e r=>cases r with
  | nil=>exact(H e).2
  | cons e2 r=>cases h
def zgL(K:Frag)(ex:List (Addr×List Addr)):Prop:=∀p∈ex,ExcIs K p.1 p.2
def zq9(X:Cx)(go:CT->Go)(K:Frag)(ex:List (Addr×List Addr)):Prop:=∀ct env,ct.K=K->ct.ex=ex->EK env ct.names->zbg X env ct.nm (go ct)
theorem zcE{go:CT->Go}(G:Gd X ct.K)(E:EK env ct.names)(H:zq9 X go ct.K ct.ex){r:Bool}{elt:Expr}{gens:List Comprehension}{scope:Scope}{S:AE->Prop}(hz:S A.no)
  (h:∀target iter ifs k t c e mi,gens=[⟨target,iter,ifs,0⟩]->SoundLC X env ct.nm (qV ct.nm) elt target iter ifs scope (ct.inn scope.names).nm k t c e mi->S (A.lc r mi t k c e)):S (zmY go ct r elt gens scope):=by
 cases gens with
 | nil=>exact hz
 | cons g gs=>
  refine zP hz λh1=>q6 hz λt i2=>?_;obtain⟨hgs,h2⟩:=zM h1;obtain⟨h3,hifs⟩:=zM h2;obtain⟨h4,hns⟩:=zM h3;obtain⟨h5,hk⟩:=zM h4;obtain⟨ha,hcb⟩:=zM h5;clear h1 h2 h3 h4 h5;have hgs:=zaw hgs;subst hgs;obtain⟨tg,it,ifs,asy⟩:=g;have hasy:asy=0:=H1 ha;subst hasy;have hkf:scope.kind = .function:=H1 hk;have E':=λC=>E.comp hcb hkf C;have H':=λC=>H (ct.inn scope.names) _ rfl rfl (E' C);refine h tg it ifs _ t _ _ _ rfl ⟨hns,by rw[E.nm];exact ze5 hcb,hkf,zcF G E (H ct env rfl rfl E),λC=>?_,λC=>ziO (H' C) hifs,λC=>(H' C _).1⟩;exact zdy (E' C).eo (λb hb=>.inl hb) (λx hx=>Or.inl ⟨(E' C).loc hx,λb hb=>hb⟩) i2
theorem ziP(G:Gd X ct.K)(HX:zgL ct.K ct.ex)(E:EK env ct.names)(H:zbg X env ct.nm go){es:List Expr}{gp pos:Pos}:zg X env ct.nm (.Call (.Name "isinstance" gp) es [] pos) (ztw go ct es):=by
 cases es with
 | nil=>exact noE
 | cons e es=>cases es with
  | nil=>exact noE
  | cons c es=>
   refine zP noE λh=>q6 noE λT hT=>?_;obtain⟨h2,he⟩:=zM h;obtain⟨h1,hs⟩:=zM h2;clear h h2;have he:=zaw he;subst he;obtain⟨tp,rfl⟩:=za9 hT;obtain⟨b1,b2⟩:=kn h1;cases hp:pyTs.lookup T with
   | some t=>
    refine zP noE λh5=>?_;obtain⟨c1,c2⟩:=kn h5;exact zmi G.ok E.eo (E.glob b1).1 (G.none b2) (G.some b2) (E.glob c1).1 (E.glob c1).2 (G.none c2) (G.some c2) hs (H e).1
   | none=>exact noE
def PrimS.Ok(X:Cx)(p:PrimS):Prop:=jt X p.val p.prim/\((∃id,p.val = .builtin id)\/∃T,p.val = .type T)
theorem zop{p:PrimS}(h:p∈prims):p.Ok X:=(fR.mpr ⟨⟨zmj,.inl ⟨_,rfl⟩⟩,fR.mpr ⟨⟨zie,.inr ⟨_,rfl⟩⟩,fR.mpr ⟨⟨zjR,.inr ⟨_,rfl⟩⟩,fR.mpr ⟨⟨zig,.inr ⟨_,rfl⟩⟩,fR.mpr ⟨⟨zmm,.inl ⟨_,rfl⟩⟩,fR.mpr ⟨⟨zmn,.inl ⟨_,rfl⟩⟩,fR.mpr ⟨⟨zmu,.inl ⟨_,rfl⟩⟩,fR.mpr ⟨⟨zgE,.inl ⟨_,rfl⟩⟩,λ_ h=>nomatch h⟩⟩⟩⟩⟩⟩⟩⟩:∀p∈prims,p.Ok X) p h
def MethS.Ok(X:Cx)(p:MethS):Prop:=Slot "list" p.name p.id/\typeOf (.builtin p.id)=pure (.type "method_descriptor")/\za3 X p.id p.meth
theorem zob{p:MethS}(h:p∈meths):p.Ok X:=(fR.mpr ⟨⟨PySem.F.slot_list_append,PySem.F.type_list_append,zgD⟩,fR.mpr ⟨⟨PySem.F.slot_list_pop,PySem.F.type_list_pop,zmr⟩,λ_ h=>nomatch h⟩⟩:∀p∈meths,p.Ok X) p h
theorem zng{K:Frag}{f:Addr}(h:(zf3 K f).isSome=true):∃fd o,K.lookup f=some o/\o.data = .func fd:=by
 obtain⟨fd,hfd⟩:=fBC.mp h;obtain⟨o,ho,hd⟩:=zkm hfd;exact⟨fd,o,ho,hd⟩
theorem ziv{g o i:Str}{es:List Expr}{e:Expr}(h:ziu g o i es=some e):g=o/\jg e=true/\∃np pos,es=[.Call (.Name i np) [e] [] pos]:=by
 refine zb (zdu h) λp h1 h2=>?_;obtain⟨h3,h4⟩:=zjg h2;obtain⟨h3,h5⟩:=zM h3;cases es with
 | nil=>exact nos h1
 | cons a r=>
  obtain⟨h6,h7⟩:=zjg h1;refine zb (zdu h7) λq h8 h9=>zY (ze4 h8) λnp pos e1=>?_;cases hq:q.2.1 with
  | nil=>rw[hq] at h9;exact nos h9
  | cons b r2=>
   rw[hq] at h9 e1;obtain⟨k1,k2⟩:=zjg h9;obtain⟨k1,k3⟩:=zM k1;obtain⟨k1,k4⟩:=zM k1;have k2:=Hx k2;have h4:=Hx h4;rw[<-k2] at h4 h5;refine⟨H1 h3,h4▸k3,np,pos,?_⟩;rw[e1,zaw h6,zaw k1,zaw k4,H1 h5,show b=e from h4]
theorem zfR(G:Gd X ct.K)(HX:zgL ct.K ct.ex)(E:EK env ct.names)(H:zbg X env ct.nm go){g:Str}{es:List Expr}{gp pos:Pos}:zg X env ct.nm (.Call (.Name g gp) es [] pos) (ziN X go ct g es pos):=by
 unfold ziN;cases hi:(g==("isinstance" : Str)) with
 | true=>
  have:=H1 hi;subst this;exact ziP G HX E H
 | false=>
  cases h2:ziu g "sorted" "set" es with
  | some e=>
   obtain⟨rfl,hs,np,pos2,rfl⟩:=ziv h2;refine zP noE λh1=>?_;obtain⟨b1,b2⟩:=kn (zM h1).1;obtain⟨c1,c2⟩:=kn (zM h1).2;exact zeX G.ok E.eo (E.glob b1).1 (G.none b2) (G.some b2) (E.glob c1).1 (G.none c2) (G.some c2) (.cons hs (H e).1 .nil)
  | none=>
  cases h3:ziu g "list" "reversed" es with
  | some e=>
   obtain⟨rfl,hs,np,pos2,rfl⟩:=ziv h3;refine zP noE λh1=>?_;obtain⟨b1,b2⟩:=kn (zM h1).1;obtain⟨c1,c2⟩:=kn (zM h1).2;exact zjW G.ok E.eo (E.glob b1).1 (G.none b2) (G.some b2) (E.glob c1).1 (G.none c2) (G.some c2) (.cons hs (H e).1 .nil)
  | none=>
  refine zP noE λhs=>?_;have hm:=zde H hs;cases hp:prims.find? (λp=>p.name==g) with
  | some p=>
   refine zP noE λh1=>?_;obtain⟨b1,b2⟩:=kn h1;obtain⟨o1,o2⟩:=zop (X:=X) (fDA hp);exact zjU G.ok E.eo (E.glob b1).1 (E.glob b1).2 (G.none b2) (G.some b2) o2 o1 hm
  | none=>
   refine zP noE λh1=>q6 noE λf h3=>?_;have hg:=zcc h3;cases hf:(zf3 ct.K f).isSome with
   | true=>
    obtain⟨fd,o,ho,hd⟩:=zng hf;exact zjO G.ok E.eo (E.glob h1).1 (E.glob h1).2 (mg_of G.inn G.ok.g hg) (G.inn _ _ ho) hd hm
   | false=>exact zP noE λk1=>q6 noE λfI k4=>zP noE λk6=>zuo G E hg h1 (zM k1).1 (zM k1).2 (zcc k4) (H1 k6) hm
theorem zfT(G:Gd X ct.K)(E:EK env ct.names)(H:zbg X env ct.nm go){g:Str}{es:List Expr}{kw:Keyword}{gp pos:Pos}:zg X env ct.nm (.Call (.Name g gp) es [kw] pos) (zm3 X go ct g es kw pos):=by
 cases es with
 | nil=>exact noE
 | cons e es=>
  obtain⟨ka,kv,kp⟩:=kw;refine zP noE λh1=>q6 noE λk hk=>?_;obtain⟨h1,he⟩:=zM h1;obtain⟨h1,hs⟩:=zM h1;obtain⟨h1,hb⟩:=zM h1;obtain⟨h1,hk'⟩:=zM h1;have:=H1 h1;subst this;have:ka=some "key":=H1 hk';subst this;have:=zaw he;subst this;obtain⟨lp,hkv⟩:=za9 hk;have hkv:kv = .Name k lp:=hkv;subst hkv;obtain⟨b1,b2⟩:=kn hb;cases hl:(k==("len" : Str)) with
  | true=>
   have:=H1 hl;subst this;refine zP noE λh6=>?_;obtain⟨c1,c2⟩:=kn h6;exact zmz G E b2 c2 b1 c1 hs (H e).1
  | false=>
   refine zP noE λh6=>q6 noE λf h8=>zP noE λhf=>?_;obtain⟨fd,o,ho,hd⟩:=zng hf;exact zqL G E b2 b1 (zcc h8) ho hd h6 hs (H e).1
theorem zgR(G:Gd X ct.K)(E:EK env ct.names)(H:zbg X env ct.nm go){o:Expr}{name:Str}{es:List Expr}{apos pos:Pos}:zg X env ct.nm (.Call (.Attribute o name apos) es [] pos) (zrg X go ct o name apos es pos):=by
 refine zP noE λh1=>?_;obtain⟨h1,hs⟩:=zM h1;obtain⟨h1,hn⟩:=zM h1;obtain⟨h1,hl⟩:=zM h1;have hm:=zde H hs;cases hp:meths.find? (λm=>m.name==name) with
 | some p=>
  obtain⟨o1,o2,o3⟩:=zob (X:=X) (fDA hp);have hnm:=fDS hp;have hnm:p.name=name:=H1 hnm;subst hnm;exact zjS o1 o2 o3 (λe=>zbr h1 _ _ _) hl hn (H o).1 hm
 | none=>
  refine zP noE λh7=>q6 noE λf h9=>zP noE λhf=>?_;obtain⟨fd,ob,ho,hd⟩:=zng (zM hf).2;exact zqJ G h7 (zcc h9) (zM hf).1 ho hd (λe=>zbr h1 _ _ _) hl hn (H o).1 hm
theorem zgO(G:Gd X ct.K)(H:zbg X env ct.nm go){o:Expr}{name:Str}{pos:Pos}:zg X env ct.nm (.Attribute o name pos) (zre go ct o name):=by
 refine zP noE λh1=>q6 noE λn h6=>?_;obtain⟨h1,h3⟩:=zM h1;obtain⟨h1,h4⟩:=zM h1;obtain⟨h1,h5⟩:=zM h1;exact zsM G (jm h6).1 (jm h6).2 h5 h4 (zcy h3) (λe=>zbr h1 _ _ _) (H o).1
theorem zgP(G:Gd X ct.K)(HX:zgL ct.K ct.ex)(E:EK env ct.names)(H:zbg X env ct.nm go){f:Expr}{es:List Expr}{kws:List Keyword}{pos:Pos}:zg X env ct.nm (.Call f es kws pos) (zrf X go ct f es kws pos):=by
 cases f with
 | Name g gp=>cases kws with
  | nil=>exact zfR G HX E H
  | cons kw r=>exact zP noE λh=>by have:=zaw h;subst this;exact zfT G E H
 | Attribute o name apos=>exact zP noE λh=>by have:=zaw h;subst this;exact zgR G E H
 | _=>exact noE
theorem zdx{K:Frag}{ex:List (Addr×List Addr)}(G:Gd X K)(HX:zgL K ex)(n:Nat):zq9 X (cE X n) K ex:=by
 induction n with
 | zero=>intro ct env hK hex E e;exact⟨noE,noB⟩
 | succ n ih=>
  intro ct env hK hex E e;subst hK hex;have H:=ih ct env rfl rfl E;cases e with
  | Name x p=>exact q7 (λ_=>rfl) (zgS G E)
  | Constant c k p=>exact q7 (λ_=>rfl) zfS
  | BinOp a o b p=>exact q7 (λ_=>rfl) (zma (H a).1 (H b).1)
  | UnaryOp o a p=>cases o with
   | USub=>exact q7 (λ_=>rfl) (zmo (H a).1)
   | Not=>exact⟨zmq (H a).1,zjL (H a).2⟩
   | _=>exact⟨noE,noB⟩
  | BoolOp o es p=>cases o with
   | And=>exact⟨zl9 (zf0 H es),zjJ (zf0 H es)⟩
   | Or=>exact⟨zoN (zf0 H es),zl8 (zf0 H es)⟩
  | Compare a ops es p=>exact⟨zP noE λh=>zmb (H a).1 (zoj H h),zP noB λh=>zjK (H a).1 (zoj H h)⟩
  | Tuple es k p=>exact q7 (λ_=>rfl) (zP noE λh=>zmv (zde H h))
  | List es p=>exact q7 (λ_=>rfl) (zP noE λh=>zml (zde H h))
  | Subscript a i p=>exact q7 (λ_=>rfl) (ziR H (H a).1)
  | ListComp elt gens scope p=>exact q7 (λ_=>rfl) (zcE G E ih noE λtarget iter ifs k t c e mi hg S=>by subst hg;exact zeD E.eo rfl S)
  | Attribute o name p=>exact q7 (λ_=>rfl) (zgO G H)
  | Dict ks vs p=>exact q7 (λ_=>rfl) (zgQ G.ok H)
  | Call f es kws p=>exact q7 (λ_=>rfl) (zgP G HX E H)
  | _=>exact⟨noE,noB⟩
theorem noS{s:Stmt}:jw X env nm s A.wL:=zid
theorem ziQ{K:Frag}(G:Gd X K)(hK:ct.K=K)(HX:zgL K ct.ex)(E:EK env ct.names){n:Nat}{t v:Expr}{pos:Pos}:jw X env ct.nm (.Assign [t] v pos) (ztx X n ct t v):=by
 subst hK;have H:=zdx G HX n ct env rfl rfl E;cases t with
 | Name x p=>
  refine zP noS λh1=>q6 noS λi h3=>?_;have other:jw X env ct.nm (.Assign [.Name x p] v pos) (ck A.wL (zdh v) (A.set i (cE X n ct v))):=zP noS λh5=>zfB E.eo (H v).1 h3 (E.var h1) (zc2 h5 _ _ _);cases v with
  | ListComp elt gens scope q=>exact zcE (S:=λm=>jw X env ct.nm (.Assign [.Name x p] (.ListComp elt gens scope q) pos) (A.set i m)) G E (zdx G HX n) (λ_ _ _ _ _ _ _ _ _ _ q=>q.elim) λtarget iter ifs k t c e mi hg S=>by subst hg;exact zeW E.eo rfl S h3 (E.var h1)
  | _=>exact other
 | Attribute o name p=>
  refine zP noS λh1=>q6 noS λk h6=>?_;obtain⟨h1,h3⟩:=zM h1;obtain⟨h1,h4⟩:=zM h1;obtain⟨h1,h5⟩:=zM h1;exact zqK G (jm h6).1 (jm h6).2 (H1 h1) h5 (zcy h4) h3 (zjZ _ _ _ _ _ _) (H v).1 (H o).1
 | Subscript o i p=>exact zjQ (H v).1 (H o).1 (H i).1 (zmx _ _ _ _ _ _)
 | _=>exact noS
theorem zrv{f:Stmt->AS}(H:∀s,jw X env nm s (f s))(ss:List Stmt):qp X env nm ss (rSs f ss):=by
 induction ss with
 | nil=>exact zmp
 | cons s r ih=>exact zjP (H s) ih
theorem zm2{K:Frag}{ex:List (Addr×List Addr)}(G:Gd X K)(HX:zgL K ex)(n:Nat):∀ct env,ct.K=K->ct.ex=ex->EK env ct.names->X.top=some env->∀s,jw X env ct.nm s (cS X n ct s):=by
 induction n with
 | zero=>intro ct env hK hex E ht s;exact noS
 | succ n ih=>
  intro ct env hK hex E ht s;have HS:=zrv (ih ct env hK hex E ht);have H:=zdx G HX n ct env hK hex E;subst hK hex;cases s with
  | Return v p=>cases v with
   | none=>exact zjV
   | some e=>exact zms (H e).1
  | Assign ts v p=>cases ts with
   | nil=>exact noS
   | cons t r=>exact zP noS λh=>by have:=zaw h;subst this;exact ziQ G rfl HX E
  | Expr e p=>exact zP noS λh=>zoL E.eo (H e).1 (zc2 h _ _ _)
  | If t a b p=>exact zoM (H t).2 (HS a) (HS b)
  | While t a b p=>exact zP noS λh=>by have:=zaw h;subst this;exact zih (H t).2 (HS a)
  | For tg it a b p=>
   refine zP noS λh=>q6 noS λt ht=>?_;have:=zaw (zM h).1;subst this;exact zmf (zM h).2 (zcF G E H) (zdy E.eo (λb hb=>hb) (λy hy=>E.stoF hy) ht) (HS a)
  | _=>exact noS
theorem zbt{o:Option FuncData}{p:Str}(h:∀a0,o.map (λfd=>bindArgs fd ⟨[a0],[]⟩)=some (pure [(p,a0)]))(vs:List Value)(hl:vs.length=[p].length):o.map (λfd=>bindArgs fd ⟨vs,[]⟩)=some (pure ([p].zip vs)):=by
 refine jq (zeU hl) λa0 v0 e179_2 h0=>?_;subst e179_2;have e:=gZ.mp h0;subst e;exact h a0
theorem j9{o:Option FuncData}{p q:Str}(h:∀a0 a1,o.map (λfd=>bindArgs fd ⟨[a0,a1],[]⟩)=some (pure [(p,a0),(q,a1)]))(vs:List Value)(hl:vs.length=[p,q].length):o.map (λfd=>bindArgs fd ⟨vs,[]⟩)=some (pure ([p,q].zip vs)):=by
 refine jq (zeU hl) λa0 v0 e180_2 h0=>?_;subst e180_2;refine jq (zeU h0) λa1 v1 e181_2 h1=>?_;subst e181_2;have e:=gZ.mp h1;subst e;exact h a0 a1
theorem zdt{o:Option FuncData}{p q r:Str}(h:∀a0 a1 a2,o.map (λfd=>bindArgs fd ⟨[a0,a1,a2],[]⟩)=some (pure [(p,a0),(q,a1),(r,a2)]))(vs:List Value)(hl:vs.length=[p,q,r].length):o.map (λfd=>bindArgs fd ⟨vs,[]⟩)=some (pure ([p,q,r].zip vs)):=by
 refine jq (zeU hl) λa0 v0 e182_2 h0=>?_;subst e182_2;refine jq (zeU h0) λa1 v1 e183_2 h1=>?_;subst e183_2;refine jq (zeU h1) λa2 v2 e184_2 h2=>?_;subst e184_2;have e:=gZ.mp h2;subst e;exact h a0 a1 a2
theorem ziL{o:Option FuncData}{p q r t:Str}(h:∀a0 a1 a2 a3,o.map (λfd=>bindArgs fd ⟨[a0,a1,a2,a3],[]⟩)=some (pure [(p,a0),(q,a1),(r,a2),(t,a3)]))(vs:List Value)(hl:vs.length=[p,q,r,t].length):o.map (λfd=>bindArgs fd ⟨vs,[]⟩)=some (pure ([p,q,r,t].zip vs)):=by
 refine jq (zeU hl) λa0 v0 e185_2 h0=>?_;subst e185_2;refine jq (zeU h0) λa1 v1 e186_2 h1=>?_;subst e186_2;refine jq (zeU h1) λa2 v2 e187_2 h2=>?_;subst e187_2;refine jq (zeU h2) λa3 v3 e188_2 h3=>?_;subst e188_2;have e:=gZ.mp h3;subst e;exact h a0 a1 a2 a3
def A.w8(Q:zk):zN:=λfl _ O'=>Ends Q (zrs fl) O'
def A.kEz(Z:XP):SXP:=λc _ O'=>Z c O'
theorem ztB{K:Frag}{ex:List (Addr×List Addr)}{C f:Addr}{refs:List (Nat×Nat)}(ps:List Str)(nm:List (Str×Nat)){d:Dp}{m:Cx->AS}{args:List AV}{Q:zk}{Z:XP}{O:AHeap}(G:Gd X K)(HX:zgL K ex)(hc:∀X,cF X K C ex f refs ps nm=some (m X))
  (hbind:∀vs,vs.length=ps.length->(zf3 K f).map (λfd=>bindArgs fd ⟨vs,[]⟩)=some (pure (ps.zip vs)))(hd:d.n<600)(hlen:args.length=ps.length)
  (h:∀L,m (X.push L) ⟨d.n+1,d.hd⟩ (zge args (qV nm)) (A.w8 Q) (A.kEz Z) O):CallOk X f d args Q Z O:=by
 refine zb (zdu (hc X)) λfd hfd h1=>?_;split at h1
 .rename_i body hbd
  obtain⟨h1,_⟩:=zjg h1;obtain⟨h1,i1⟩:=zM h1;obtain⟨h1,i2⟩:=zM h1;obtain⟨h1,i3⟩:=zM h1;obtain⟨h1,i4⟩:=zM h1;obtain⟨h1,i5⟩:=zM h1;obtain⟨h1,i6⟩:=zM h1;obtain⟨h1,i7⟩:=zM h1;refine zb (zkm hfd) λo ho hod=>?_;refine zle (m:=λL=>m (X.push L)) G.ok (scope:=fd.scope) ⟨o,fd,G.inn _ _ ho,hod,rfl,hbd,List.isEmpty_iff.mp h1,H1 i7,H1 i6,codeRec_of G.inn i5,λvs hv=>by have:=hbind vs hv;rw[hfd] at this;exact Hx this⟩ (zjw i4) (H1 i3) (zqd i2) (zqd i1) (λenv EO es=>?_) hd hlen h;refine zb (zdu (hc (X.push env))) λfd' hfd' h2=>?_;rw[hfd] at hfd';obtain rfl:=Hx hfd';rw[hbd] at h2;obtain⟨_,h2⟩:=zjg h2;rw[<-Hx h2];exact zrv (zm2 (G.push _) HX 40 ⟨K,C,refs,fd.scope.names,nm,ex⟩ env rfl rfl ⟨EO,by rw[es]⟩ rfl) body
 .exact absurd (Eq.symm h1) (fN _)
end
inductive Flat:Nat->AV->Prop
 | none {k:Nat}:Flat k .none
 | int {k:Nat} (i:Int):Flat k (.int i)
 | str {k n:Nat} (h:n<kU):Flat k (.str n)
 | tup {k:Nat} {xs:List AV}:(∀x∈xs,Flat k x)->Flat (k+1) (.tup xs)
 | lst {k:Nat} {xs:List AV}:(∀x∈xs,Flat k x)->Flat (k+1) (.lst xs)
section
variable{O:AHeap}
theorem zgu{k:Nat}{xs:List AV}(h:∀x∈xs,∃d,Rd O x d/\d.depth<=k):∃ds,RdL O xs ds/\PyData.depthAll ds<=k:=by
 induction xs with
 | nil=>exact⟨[],.nil,fV _⟩
 | cons x xs ih=>
  refine zb (h x fB) λd h1 h2=>?_;refine zb (ih λy hy=>h y (fA _ hy)) λds h3 h4=>?_;exact zd (d::ds) (.cons h1 h3) (by simp only[PyData.depthAll];exact Nat.max_le.mpr ⟨h2,h4⟩)
theorem Flat.rd{k:Nat}{x:AV}(h:Flat k x):∃d,Rd O x d/\d.depth<=k:=by
 induction h with
 | none=>exact⟨_,.none,by simp only[PyData.depth];exact fV _⟩
 | int i=>exact⟨_,.int i,by simp only[PyData.depth];exact fV _⟩
 | str h=>exact⟨_,.str _,by simp only[PyData.depth];exact fV _⟩
 | tup _ ih=>
  refine zb (zgu ih) λds h1 h2=>?_;exact⟨_,.tup h1,by simp only[PyData.depth];exact gW h2⟩
 | lst _ ih=>
  refine zb (zgu ih) λds h1 h2=>?_;exact zd _ (.lst h1) (by simp only[PyData.depth];exact gW h2)
theorem zkl{xs ys:List AV}{ds es:List PyData}(hx:RdL O xs ds)(hy:RdL O ys es)(h:∀x∈xs,∀y∈ys,∀d e,Rd O x d->Rd O y e->(PyData.eqv d e=true↔x=y)):PyData.eqvAll ds es=true↔xs=ys:=by
 induction xs generalizing ys ds es with
 | nil=>
  obtain rfl:=RdL.wG hx;cases hy with
  | nil=>simp only[PyData.eqvAll]
  | cons _ _=>simp only[PyData.eqvAll,gC,false_iff];exact λe=>nomatch e
 | cons x xs ih=>
  refine zl (RdL.wF hx) λ_ _ e4_2 h1 h2=>?_;subst e4_2;cases hy with
  | nil=>simp only[PyData.eqvAll,gC,false_iff];exact λe=>nomatch e
  | cons h3 h4=>
   simp only[PyData.eqvAll,gX,List.cons.injEq];exact and_congr (h _ fB _ fB _ _ h1 h3) (ih h2 h4 λa ha b hb=>h a (fA _ ha) b (fA _ hb))
theorem zmQ{i j:Int}(h:AV.int i = .int j):i=j:=by injection h
theorem zrO{i j:Nat}(h:AV.str i = .str j):i=j:=by injection h
theorem zrP{i j:List AV}(h:AV.tup i = .tup j):i=j:=by injection h
theorem zrN{i j:List AV}(h:AV.lst i = .lst j):i=j:=by injection h
theorem mis{P:Prop}(h:¬P):(false=true↔P):=⟨nob,λp=>absurd p h⟩
theorem Flat.eqv{k:Nat}{x:AV}(h:Flat k x):∀{j:Nat} {y:AV},Flat j y->∀d e,Rd O x d->Rd O y e->(PyData.eqv d e=true↔x=y):=by
 induction h with
 | none=>
  intro j y hy d e hd he;obtain rfl:=Rd.wK hd;cases hy with
  | none=>
   obtain rfl:=Rd.wK he;exact⟨λ_=>rfl,λ_=>rfl⟩
  | int i'=>
   obtain rfl:=Rd.wC he;exact mis nofun
  | str h'=>
   obtain rfl:=Rd.wJ he;exact mis nofun
  | tup hy=>
   refine zb (Rd.wH he) λ_ e6 ry=>?_;subst e6;exact mis nofun
  | lst hy=>
   refine zb (Rd.wQ he) λ_ e6 ry=>?_;subst e6;exact mis nofun
 | int i=>
  intro j y hy d e hd he;obtain rfl:=Rd.wC hd;cases hy with
  | none=>
   obtain rfl:=Rd.wK he;exact mis nofun
  | int i'=>
   obtain rfl:=Rd.wC he;exact⟨λe=>congrArg AV.int (H1 e),λe=>beq_iff_eq.mpr (zmQ e)⟩
  | str h'=>
   obtain rfl:=Rd.wJ he;exact mis nofun
  | tup hy=>
   refine zb (Rd.wH he) λ_ e6 ry=>?_;subst e6;exact mis nofun
  | lst hy=>
   refine zb (Rd.wQ he) λ_ e6 ry=>?_;subst e6;exact mis nofun
 | str h=>
  intro j y hy d e hd he;obtain rfl:=Rd.wJ hd;cases hy with
  | none=>
   obtain rfl:=Rd.wK he;exact mis nofun
  | int i'=>
   obtain rfl:=Rd.wC he;exact mis nofun
  | str h'=>
   obtain rfl:=Rd.wJ he;exact⟨λe=>congrArg AV.str (kW h h' (H1 e)),λe=>by obtain rfl:=zrO e;exact BEq.rfl⟩
  | tup hy=>
   refine zb (Rd.wH he) λ_ e6 ry=>?_;subst e6;exact mis nofun
  | lst hy=>
   refine zb (Rd.wQ he) λ_ e6 ry=>?_;subst e6;exact mis nofun
 | tup _ ih=>
  intro j y hy d e hd he;refine zb (Rd.wH hd) λ_ e5 rx=>?_;subst e5;cases hy with
  | none=>
   obtain rfl:=Rd.wK he;exact mis nofun
  | int i'=>
   obtain rfl:=Rd.wC he;exact mis nofun
  | str h'=>
   obtain rfl:=Rd.wJ he;exact mis nofun
  | tup hy=>
   refine zb (Rd.wH he) λ_ e6 ry=>?_;subst e6;exact Iff.trans (zkl rx ry λa ha b hb=>ih a ha (hy b hb)) ⟨congrArg AV.tup,zrP⟩
  | lst hy=>
   refine zb (Rd.wQ he) λ_ e6 ry=>?_;subst e6;exact mis nofun
 | lst _ ih=>
  intro j y hy d e hd he;refine zb (Rd.wQ hd) λ_ e5 rx=>?_;subst e5;cases hy with
  | none=>
   obtain rfl:=Rd.wK he;exact mis nofun
  | int i'=>
   obtain rfl:=Rd.wC he;exact mis nofun
  | str h'=>
   obtain rfl:=Rd.wJ he;exact mis nofun
  | tup hy=>
   refine zb (Rd.wH he) λ_ e6 ry=>?_;subst e6;exact mis nofun
  | lst hy=>
   refine zb (Rd.wQ he) λ_ e6 ry=>?_;subst e6;exact Iff.trans (zkl rx ry λa ha b hb=>ih a ha (hy b hb)) ⟨congrArg AV.lst,zrN⟩
theorem zdI{k j:Nat}{x y:AV}{Q:Bool->AHeap->Prop}(hx:Flat k x)(hy:Flat j y)(hk:k<=100)(h1:x=y->Q true O)(h2:x≠y->Q false O):eqG x y Q O:=by
 refine zb (hx.rd (O:=O)) λd r1 l1=>?_;refine zb (hy.rd (O:=O)) λe r2 l2=>?_;have:=hx.eqv hy d e r1 r2;unfold eqG;refine zn d e r1 r2 (fE l1 hk) ?_;cases hb:PyData.eqv d e with
 | true=>exact h1 (this.mp hb)
 | false=>exact h2 λq=>by rw[this.mpr q] at hb;cases hb
theorem zmN{k:Nat}{x:AV}{d:PyData}{xs:List AV}{ds:List PyData}(hx:Flat k x)(hd:Rd O x d)(h:∀y∈xs,Flat k y)(r:RdL O xs ds):(ds.any λy=>PyData.eqv y d)=true↔x∈xs:=by
 induction xs generalizing ds with
 | nil=>obtain rfl:=RdL.wG r;simp
 | cons y ys ih=>
  refine zl (RdL.wF r) λ_ _ e11_2 r1 r2=>?_;subst e11_2;rw[List.any_cons,fDR,ih (λz hz=>h z (fA _ hz)) r2,(h y fB).eqv hx _ _ r1 hd,fM];exact or_congr ⟨Eq.symm,Eq.symm⟩ Iff.rfl
theorem zdT{k:Nat}{x c:AV}{xs:List AV}{Q:Bool->AHeap->Prop}(hc:c = .lst xs\/c = .tup xs)(hx:Flat k x)(h:∀y∈xs,Flat k y)(hk:k<=100)(h1:x∈xs->Q true O)(h2:x∉xs->Q false O):inG x c Q O:=by
 refine zb (hx.rd (O:=O)) λd r1 l1=>?_;refine zb (zgu (O:=O) λy hy=>(h y hy).rd) λds r2 l2=>?_;have:=zmN hx r1 h r2;unfold inG;refine zn ds d ?_ r1 (fE l2 hk) ?_
 .rcases hc with rfl|rfl
  .exact .inl (.lst r2)
  .exact .inr (.tup r2)
 cases hb:(ds.any λy=>PyData.eqv y d) with
 | true=>exact h1 (this.mp hb)
 | false=>exact h2 λq=>by rw[this.mpr q] at hb;cases hb
theorem znx{k:Nat}{x:AV}{p:Addr}{xs:List AV}{Q:Bool->AHeap->Prop}(hp:O p=some (.list xs))(hx:Flat k x)(h:∀y∈xs,Flat k y)(hk:k<=100)(h1:x∈xs->Q true O)(h2:x∉xs->Q false O):inR x p Q O:=by
 refine zb (hx.rd (O:=O)) λd r1 l1=>?_;refine zb (zgu (O:=O) λy hy=>(h y hy).rd) λds r2 l2=>?_;have:=zmN hx r1 h r2;unfold inR inG;refine .inr (.inr (zn ds d (.inl (.list hp r2)) r1 (fE l2 hk) ?_));cases hb:(ds.any λy=>PyData.eqv y d) with
 | true=>exact h1 (this.mp hb)
 | false=>exact h2 λq=>by rw[this.mpr q] at hb;cases hb
theorem zpD{row:List zc}{p:Addr}{kvs:Tab}{Q:Bool->AHeap->Prop}(hp:O p=some (.tdict kvs))(q:Q (Tab.at kvs row).isSome O):inR (zx row) p Q O:=by
 unfold inR;exact .inl (zI kvs row hp rfl q)
theorem Ends.same{Q:zk}{v:AV}(q:Q v O):Ends Q v O:=by
 unfold Ends;exact qU (λ_=>none) O v ⟨λ_ _ h=>(by cases h),λ_ _ h=>h⟩ (.same v) q
theorem Ends.drop{Q:zk}{v:AV}{O':AHeap}(h:∀a o,O' a=some o->O a=some o)(q:Q v O'):Ends Q v O:=by
 unfold Ends;exact qU (λ_=>none) O' v ⟨λ_ _ h=>(by cases h),h⟩ (.same v) q
theorem Ends.one{Q:zk}{p:Addr}{xs:List AV}{O':AHeap}(h:∀a o,O' a=some o->O a=some o)(hp:O p=some (.list xs))(hp':O' p=none)(q:Q (.lst xs) O'):Ends Q (.ref p) O:=by
 have same:∀V (l:List AV),FzL V l l:=λV l=>by
  induction l with
  | nil=>exact .nil
  | cons x l ih=>exact .cons (.same x) ih
 unfold Ends;refine qU (λa=>if a=p then some xs else none) O' (.lst xs) ⟨λa ys h1=>?_,h⟩ (.lst (if_pos rfl)) q;split at h1
 .rename_i e;subst e;obtain rfl:=Hx h1;exact kt hp' xs hp (same _ _)
 .exact absurd (Eq.symm h1) (fN _)
end
section
variable{I:AHeap->Prop}{t:Tgt}{d:Dp}{O:AHeap}{l:Loc}
theorem zfa{J β:Type}{body:AS}{S:zN}{g:J->AV}(Ja:List J->β->Loc->AHeap->Prop)(f:β->J->β)
  (step:∀x xs b l O (K:Loc->AHeap->Prop),Ja (x::xs) b l O->(∀l' O',Ja xs (f b x) l' O'->K l' O')->
   ∃l',jP t (g x) l=some l'/\body d l' (A.wN I K S) A.noX O)
  {xs:List J}{b:β}(fin:∀l O,Ja [] (xs.foldl f b) l O->S .next l O)(h:Ja xs b l O):zhd I t body d S (xs.map g) l O:=by
 induction xs generalizing l O b with
 | nil=>exact fin l O h
 | cons x xs ih=>exact step x xs b l O _ h λl' O'=>ih (b:=f b x) fin
theorem zH{J β:Type}{body:AS}{S:zN}{g:J->AV}(Ja:List J->β->Loc->AHeap->Prop)(f:β->J->β)
  (step:∀x xs b l O (K:Loc->AHeap->Prop) (S:zN),Ja (x::xs) b l O->(∀l' O',Ja xs (f b x) l' O'->K l' O')->
   ∃l',jP t (g x) l=some l'/\body d l' (A.wN I K S) A.noX O)
  {xs:List J}{b:β}(fin:∀l O,Ja [] (xs.foldl f b) l O->S .next l O)(h:Ja xs b l O):zhd I t body d S (xs.map g) l O:=by
 induction xs generalizing l O b with
 | nil=>exact fin l O h
 | cons x xs ih=>exact step x xs b l O _ _ h λl' O'=>ih (b:=f b x) fin
theorem zli{J:Type}{c elt:AE}{Q:List AV->AHeap->Prop}(p:J->Bool)(g f:J->AV)(lx:J->Loc){xs:List J}{acc:List AV}(h0:∀x∈xs,jP t (g x) l=some (lx x))(h1:∀x∈xs,∀y∈xs,jP t (g x) (lx y)=some (lx x))
  (hc:∀x∈xs,∀R:Bool->AHeap->Prop,R (p x) O->c d (lx x) (isB R) (λ_ _=>False) O)
  (he:∀x∈xs,p x=true->∀R:zk,R (f x) O->elt d (lx x) R (λ_ _=>False) O)(hI:I O)(hl:acc.length+xs.length<=1000000)(q:Q (acc++(xs.filter p).map f) O):zaE I t (some c) elt d Q (xs.map g) acc l O:=by
 induction xs generalizing acc l with
 | nil=>simpa [zaE] using q
 | cons x xs ih=>
  simp only[fH] at hl;refine zd (lx x) (h0 x fB) ?_;refine hc x fB _ ?_;have go:=λacc'=>ih (acc:=acc') (l:=lx x) (λy hy=>h1 y (fA _ hy) x fB) (λy hy z hz=>h1 y (fA _ hy) z (fA _ hz)) (λy hy=>hc y (fA _ hy)) (λy hy=>he y (fA _ hy));rw[fBG] at q;cases hp:p x with
  | true=>
   rw[if_pos hp] at q;refine he x fB hp _ (zp hI (zwe hl) (go _ (by rw[fF,fY];exact zwd hl) ?_));rw[gH];exact q
  | false=>
   rw[if_neg (by rw[hp];exact pK)] at q;exact⟨hI,go _ (zzH hl) q⟩
theorem jH{J:Type}{c elt:AE}{Q:List AV->AHeap->Prop}{xs:List J}{g:J->AV}(p:J->Bool)(f:J->AV){lx:J->Loc}(h0:∀x,jP t (g x) l=some (lx x))(h1:∀x y,jP t (g x) (lx y)=some (lx x))
  (hc:∀x∈xs,∀R:Bool->AHeap->Prop,R (p x) O->c d (lx x) (isB R) (λ_ _=>False) O)
  (he:∀x∈xs,p x=true->∀R:zk,R (f x) O->elt d (lx x) R (λ_ _=>False) O)(hI:I O)(hl:xs.length<=1000000)(q:Q ((xs.filter p).map f) O):zaE I t (some c) elt d Q (xs.map g) [] l O:=
 zli p g f lx (λx _=>h0 x) (λx _ y _=>h1 x y) hc he hI (by rw[pQ,fAO];exact hl) q
theorem zna{J:Type}{elt:AE}{Q:List AV->AHeap->Prop}(g f:J->AV)(lx:J->Loc){xs:List J}{acc:List AV}(h0:∀x∈xs,jP t (g x) l=some (lx x))(h1:∀x∈xs,∀y∈xs,jP t (g x) (lx y)=some (lx x))
  (he:∀x∈xs,∀R:zk,R (f x) O->elt d (lx x) R (λ_ _=>False) O)(hI:I O)(hl:acc.length+xs.length<=1000000)(q:Q (acc++xs.map f) O):zaE I t none elt d Q (xs.map g) acc l O:=by
 induction xs generalizing acc l with
 | nil=>simpa [zaE] using q
 | cons x xs ih=>
  simp only[fH] at hl;refine zd (lx x) (h0 x fB) (he x fB _ (zp hI (zwe hl) ?_));refine ih (λy hy=>h1 y (fA _ hy) x fB) (λy hy z hz=>h1 y (fA _ hy) z (fA _ hz)) (λy hy=>he y (fA _ hy)) (by rw[fF,fY];exact zwd hl) ?_;rw[gH];exact q
theorem js{J:Type}{elt:AE}{Q:List AV->AHeap->Prop}{xs:List J}{g:J->AV}(f:J->AV){lx:J->Loc}(h0:∀x,jP t (g x) l=some (lx x))(h1:∀x y,jP t (g x) (lx y)=some (lx x))
  (he:∀x∈xs,∀R:zk,R (f x) O->elt d (lx x) R (λ_ _=>False) O)(hI:I O)(hl:xs.length<=1000000)(q:Q (xs.map f) O):zaE I t none elt d Q (xs.map g) [] l O:=
 zna g f lx (λx _=>h0 x) (λx _ y _=>h1 x y) he hI (by rw[pQ,fAO];exact hl) q
end
theorem zpG(lo:Int)(n:Nat):zhq lo n=(List.range n).map (λi:Nat=>AV.int (lo+i)):=by
 induction n generalizing lo with
 | zero=>rfl
 | succ n ih=>
  rw[List.range_succ_eq_map,gM,gA];show AV.int lo::zhq (lo+1) n=_;rw[ih];refine congr (congrArg List.cons (by rw[Int.natCast_zero,fDN])) (gG λi _=>?_)
  congr 1;exact y97
theorem zqp(n:Nat):zov 0 n=(List.range n).map (λi:Nat=>AV.int i):=by
 unfold zov;rw[zpG];have:((n:Int)-0).toNat=n:=zzn;rw[this];exact gG λi _=>by rw[Int.zero_add]
theorem zl1{n:Nat}(hn:n<=1000000):zh4 0 n=true:=by
 unfold zh4;rw[Int.natAbs_natCast,gO];exact⟨rfl,fCJ (zy4 hn)⟩
theorem zel{n:Nat}{K:List AV->Prop}(hn:n<=1000000)(h:K ((List.range n).map λi:Nat=>AV.int i)):onB (zh4 0 n) (K (zov 0 n)):=qZ (zl1 hn) (by rw[zqp];exact h)
theorem atIdx_nat{J:Type}{xs:List J}{n:Nat}:j8 xs (n:Int)=xs[n]?:=by unfold j8;rw[if_pos (pA n),fA9]
section
open PySem.Spec
theorem zpH{O:AHeap}{h:Heap}{vs:List Value}{ns:List Int}(hi:IntsAre vs ns):RepVs O h (ns.map AV.int) vs:=by
 induction hi with
 | nil=>exact .nil
 | cons _ _ _ ih=>exact .cons (.int _ _) ih
theorem head_of{prog:Hi}{w:World}{s₁:Shared}{mg mb:Str->Option Value}{K:Frag}{c:ClaimW}{cl:Str->Option Addr}{mean:ExcName->Option Value}{args:List WData}{l fa:Addr}{vs:List Value}{ns:List Int}
  (G:Gd ⟨prog,w,s₁.heap,s₁.os,mg,mb,[],none⟩ K)(hl:s₁.heap.IsList l vs.toArray)(hi:IntsAre vs ns)(hlen:ns.length<=1000000)(hg:s₁.gens = #[])(hr:∀cls,c.raises args cls=false)(hpost:c.post args (.bool true) args=true)
  (hcall:∀(Q:zk) (Z:XP) (O:AHeap),(∀O',Q (.bool true) O')->CallOk ⟨prog,w,s₁.heap,s₁.os,mg,mb,[],none⟩ fa ⟨0,false⟩ [.lst (ns.map .int)] Q Z O) :
  Hj (model prog w) callerA (.call (.ref fa) ⟨[.ref l],[]⟩) (GoodW c cl mean args s₁) s₁:=by
 have a:At ⟨prog,w,s₁.heap,s₁.os,mg,mb,[],none⟩ (λb=>if b=l then some (.frz (ns.map .int)) else none) s₁:=by
  refine⟨λb o e=>e,λb o e=>?_,λb o e hro=>?_,hg,rfl,(λL hL=>nomatch hL)⟩
  .split at e
   .rename_i hb;subst hb;obtain rfl:=Hx e;exact zt vs hl (zpH hi) (by simpa using hlen)
   .exact absurd (Eq.symm e) (fN _)
  .split at e
   .obtain rfl:=Hx e;cases hro
   .exact absurd (Eq.symm e) (fN _)
 have L:Live ⟨prog,w,s₁.heap,s₁.os,mg,mb,[],none⟩ ⟨0,false⟩ callerA:=⟨by decide,by decide,λ_=>rfl,by decide,[],rfl,⟨(λe he=>nomatch he),(λL hL=>nomatch hL)⟩,(λe he=>nomatch he)⟩
 have hc:=hcall (λv _=>v = .bool true) (λ_ _=>False) (vis λb=>if b=l then some (.frz (ns.map .int)) else none) λ_=>rfl;unfold CallOk at hc;refine Hg (hc callerA s₁ [.ref l] _ rfl L a (.cons (.lst (if_pos rfl)) .nil)) λr s' x=>?_;cases r with
 | ok f=>
  cases f with
  | ret v=>
   refine zh x λav O' rv a' st e0_5=>?_;subst e0_5;obtain rfl:=RepV.wO rv;exact zr (.inl (zE _ _ [] rfl hr (.bool true) hpost (λ_=>⟨.nil,λ_ h=>nomatch h⟩))) a'.keep a'.os a'.gens
  | next=>exact x.elim
  | brk=>exact x.elim
  | cont=>exact x.elim
 | error e=>exact noX x
end
section
set_option maxRecDepth 1000000
open PySem.Calls
noncomputable abbrev pw:Hi:=PySem.Challenge.pw_uf060002_11
noncomputable abbrev rw_:OpenLaw:=PySem.Challenge.rw_uf060002_11
noncomputable def st(i:Nat):Stmt:=pw.main.body.getD i (.Pass ⟨0,0,0,0⟩)
noncomputable def co(x q:Str)(n:Nat)(l a:Int)(r s:Nat)(v w:Value)(z k:Nat):Obj:=⟨.type "code",none,.fields #[.str x n,.str q (n+1),.str "/claim/cut.py" (n+2),.int l 0,.int a 0,.int 0 0,.int 0 0,.int 3 0,.ref r,.bool Bool.true,.int 181 0,.ref s,.none,v,w,.ref z,.int (k:Int) 0,.int l 0,.str "/claim/cut.py" (k+1)],#[]⟩
noncomputable def hK(P:Hk):Frag:=[(3,⟨.type "dict",none,.dict #[en P "__name__" 165 (.str "law_uf060002_11" 500),en P "__doc__" 166 (.none),en P "__package__" 167 (.none),en P "__loader__" 168 (.builtin "__main__.__loader__#opaque"),en P "__spec__" 169 (.none),en P "__annotations__" 170 (.ref 6),en P "__builtins__" 171 (.ref 4),en P "__file__" 173 (.str "/claim/cut.py" 172),en P "__cached__" 174 (.none),en P "_wall" 193 (.ref 21),en P "MOST_DAY" 197 (.int 9999 196),en P "MOST_CENTS" 199 (.int 1000000000 198),en P "is_whole" 206 (.ref 28),en P "is_entry" 214 (.ref 35),en P "entry_of" 223 (.ref 42),en P "in_order" 229 (.ref 47),en P "groups" 242 (.ref 54),en P "TickError" 262 (.ref 64),en P "BadEntry" 278 (.ref 77),en P "BadSpan" 294 (.ref 89),en P "TooMany" 310 (.ref 101),en P "MOST_BESIDE" 314 (.int 3 313),en P "is_rising" 323 (.ref 110),en P "marks_of" 329 (.ref 115),en P "fits" 335 (.ref 120),en P "rows_of" 341 (.ref 125),en P "by_size" 348 (.ref 132),en P "within" 354 (.ref 137),en P "without" 362 (.ref 142),en P "taken_out" 374 (.ref 149),en P "table" 380 (.ref 154),en P "picked" 386 (.ref 159),en P "MOST_SPAN" 390 (.int 30 389),en P "MOST_MARKS" 392 (.int 8 391),en P "Ledger" 499 (.ref 240),en P "_law_cell_at" 509 (.ref 251),en P "_law_entry" 518 (.ref 258),en P "_law_free_days" 532 (.ref 265),en P "_law_parted" 538 (.ref 270),en P "law" 544 (.ref 275)] 40,#[]⟩),(20,co "_wall" "_wall" 187 1 1 15 16 (.ref 17) (.ref 18) 19 191),(21,fnO (st 0) (.str "__main__" 164) (.ref 20)),(27,co "is_whole" "is_whole" 200 7 1 22 23 (.ref 24) (.ref 25) 26 204),(28,fnO (st 4) (.str "tickoff.entries" 194) (.ref 27)),(34,co "is_entry" "is_entry" 207 9 2 29 30 (.ref 31) (.ref 32) 33 212),(35,fnO (st 5) (.str "tickoff.entries" 194) (.ref 34)),(41,co "entry_of" "entry_of" 215 13 3 36 37 (.ref 38) (.ref 39) 40 221),(42,fnO (st 6) (.str "tickoff.entries" 194) (.ref 41)),(46,co "in_order" "in_order" 224 17 2 43 44 (.none) (.none) 45 227),(47,fnO (st 7) (.str "tickoff.entries" 194) (.ref 46)),(53,co "groups" "groups" 230 21 3 48 49 (.ref 50) (.ref 51) 52 240),(54,fnO (st 8) (.str "tickoff.entries" 194) (.ref 53)),(63,⟨.type "dict",none,.dict #[en P "__module__" 252 (.str "tickoff.errors" 243),en P "__firstlineno__" 256 (.int 32 255),en P "__static_attributes__" 257 (.ref 62),en P "__weakref__" 259 (.ref 65),en P "__doc__" 260 (.none)] 3,#[]⟩),(64,{ cls:=.type "type",data:=.cls       { name:="TickError",bases:=[.type "ValueError"],mro:=[.ref 64,.type "ValueError",.type "Exception",.type "BaseException",.type "object"],ns:=63,qualname:="TickError",subclasses:=[.ref 77,.ref 89,.ref 101] },slots:=#[Option.some (.ref 55),Option.none,Option.some (.str "TickError" 245),Option.some (.str "TickError" 253),Option.some (.builtin "ValueError.__new__"),Option.some (.bool Bool.true)] }),(76,⟨.type "dict",none,.dict #[en P "__module__" 270 (.str "tickoff.errors" 243),en P "__firstlineno__" 274 (.int 34 273),en P "__static_attributes__" 275 (.ref 75),en P "__doc__" 276 (.none)] 2,#[]⟩),(77,{ cls:=.type "type",data:=.cls       { name:="BadEntry",bases:=[.ref 64],mro:=[.ref 77,.ref 64,.type "ValueError",.type "Exception",.type "BaseException",.type "object"],ns:=76,qualname:="BadEntry" },slots:=#[Option.some (.ref 68),Option.none,Option.some (.str "BadEntry" 263),Option.some (.str "BadEntry" 271),Option.some (.builtin "ValueError.__new__"),Option.some (.bool Bool.true)] }),(88,⟨.type "dict",none,.dict #[en P "__module__" 286 (.str "tickoff.errors" 243),en P "__firstlineno__" 290 (.int 36 289),en P "__static_attributes__" 291 (.ref 87),en P "__doc__" 292 (.none)] 2,#[]⟩),(89,{ cls:=.type "type",data:=.cls       { name:="BadSpan",bases:=[.ref 64],mro:=[.ref 89,.ref 64,.type "ValueError",.type "Exception",.type "BaseException",.type "object"],ns:=88,qualname:="BadSpan" },slots:=#[Option.some (.ref 80),Option.none,Option.some (.str "BadSpan" 279),Option.some (.str "BadSpan" 287),Option.some (.builtin "ValueError.__new__"),Option.some (.bool Bool.true)] }),(100,⟨.type "dict",none,.dict #[en P "__module__" 302 (.str "tickoff.errors" 243),en P "__firstlineno__" 306 (.int 38 305),en P "__static_attributes__" 307 (.ref 99),en P "__doc__" 308 (.none)] 2,#[]⟩),(101,{ cls:=.type "type",data:=.cls       { name:="TooMany",bases:=[.ref 64],mro:=[.ref 101,.ref 64,.type "ValueError",.type "Exception",.type "BaseException",.type "object"],ns:=100,qualname:="TooMany" },slots:=#[Option.some (.ref 92),Option.none,Option.some (.str "TooMany" 295),Option.some (.str "TooMany" 303),Option.some (.builtin "ValueError.__new__"),Option.some (.bool Bool.true)] }),(109,co "is_rising" "is_rising" 315 42 2 104 105 (.ref 106) (.ref 107) 108 321),(110,fnO (st 16) (.str "tickoff.matching" 311) (.ref 109)),(114,co "marks_of" "marks_of" 324 49 1 111 112 (.none) (.none) 113 327),(115,fnO (st 17) (.str "tickoff.matching" 311) (.ref 114)),(119,co "fits" "fits" 330 51 4 116 117 (.none) (.none) 118 333),(120,fnO (st 18) (.str "tickoff.matching" 311) (.ref 119)),(124,co "rows_of" "rows_of" 336 62 2 121 122 (.none) (.none) 123 339),(125,fnO (st 19) (.str "tickoff.matching" 311) (.ref 124)),(131,co "by_size" "by_size" 342 70 1 126 127 (.ref 128) (.ref 129) 130 346),(132,fnO (st 20) (.str "tickoff.matching" 311) (.ref 131)),(136,co "within" "within" 349 72 4 133 134 (.none) (.none) 135 352),(137,fnO (st 21) (.str "tickoff.matching" 311) (.ref 136)),(141,co "without" "without" 357 83 2 138 139 (.none) (.none) 140 360),(142,fnO (st 23) (.str "tickoff.picking" 355) (.ref 141)),(148,co "taken_out" "taken_out" 363 88 2 143 144 (.ref 145) (.ref 146) 147 372),(149,fnO (st 24) (.str "tickoff.picking" 355) (.ref 148)),(153,co "table" "table" 375 97 2 150 151 (.none) (.none) 152 378),(154,fnO (st 25) (.str "tickoff.picking" 355) (.ref 153)),(158,co "picked" "picked" 381 119 2 155 156 (.none) (.none) 157 384),(159,fnO (st 26) (.str "tickoff.picking" 355) (.ref 158)),(172,co "__init__" "Ledger.__init__" 405 136 2 167 168 (.ref 169) (.ref 170) 171 410),(173,fnQ (zaN (st 30) 0) "Ledger.__init__" (.str "tickoff.ledger" 387) (.ref 172)),(179,co "all_groups" "Ledger.all_groups" 413 144 1 174 175 (.ref 176) (.ref 177) 178 417),(180,fnQ (zaN (st 30) 1) "Ledger.all_groups" (.str "tickoff.ledger" 387) (.ref 179)),(184,co "pick" "Ledger.pick" 420 147 2 181 182 (.none) (.none) 183 423),(185,fnQ (zaN (st 30) 2) "Ledger.pick" (.str "tickoff.ledger" 387) (.ref 184)),(191,co "put" "Ledger.put" 426 152 4 186 187 (.ref 188) (.ref 189) 190 435),(192,fnQ (zaN (st 30) 3) "Ledger.put" (.str "tickoff.ledger" 387) (.ref 191)),(198,co "entry" "Ledger.entry" 438 164 3 193 194 (.ref 195) (.ref 196) 197 444),(199,fnQ (zaN (st 30) 4) "Ledger.entry" (.str "tickoff.ledger" 387) (.ref 198)),(205,co "matches" "Ledger.matches" 447 167 1 200 201 (.ref 202) (.ref 203) 204 451),(206,fnQ (zaN (st 30) 5) "Ledger.matches" (.str "tickoff.ledger" 387) (.ref 205)),(212,co "barred" "Ledger.barred" 454 170 1 207 208 (.ref 209) (.ref 210) 211 458),(213,fnQ (zaN (st 30) 6) "Ledger.barred" (.str "tickoff.ledger" 387) (.ref 212)),(217,co "left" "Ledger.left" 461 173 2 214 215 (.none) (.none) 216 464),(218,fnQ (zaN (st 30) 7) "Ledger.left" (.str "tickoff.ledger" 387) (.ref 217)),(222,co "group_of" "Ledger.group_of" 467 179 3 219 220 (.none) (.none) 221 470),(223,fnQ (zaN (st 30) 8) "Ledger.group_of" (.str "tickoff.ledger" 387) (.ref 222)),(229,co "take_back" "Ledger.take_back" 473 182 2 224 225 (.ref 226) (.ref 227) 228 478),(230,fnQ (zaN (st 30) 9) "Ledger.take_back" (.str "tickoff.ledger" 387) (.ref 229)),(236,co "again" "Ledger.again" 481 185 1 231 232 (.ref 233) (.ref 234) 235 485),(237,fnQ (zaN (st 30) 10) "Ledger.again" (.str "tickoff.ledger" 387) (.ref 236)),(239,⟨.type "dict",none,.dict #[en P "__module__" 400 (.str "tickoff.ledger" 387),en P "__firstlineno__" 404 (.int 134 403),en P "__init__" 412 (.ref 173),en P "all_groups" 419 (.ref 180),en P "pick" 425 (.ref 185),en P "put" 437 (.ref 192),en P "entry" 446 (.ref 199),en P "matches" 453 (.ref 206),en P "barred" 460 (.ref 213),en P "left" 466 (.ref 218),en P "group_of" 472 (.ref 223),en P "take_back" 480 (.ref 230),en P "again" 487 (.ref 237),en P "__static_attributes__" 492 (.ref 238),en P "__dict__" 494 (.ref 241),en P "__weakref__" 496 (.ref 242),en P "__doc__" 497 (.none)] 4,#[]⟩),(240,{ cls:=.type "type",data:=.cls       { name:="Ledger",bases:=[.type "object"],mro:=[.ref 240,.type "object"],ns:=239,qualname:="Ledger" },slots:=#[Option.none,Option.none,Option.some (.str "Ledger" 393),Option.some (.str "Ledger" 401),Option.some (.builtin "object.__new__"),Option.some (.bool Bool.true)] }),(250,co "_law_cell_at" "_law_cell_at" 502 188 2 245 246 (.ref 247) (.ref 248) 249 507),(251,fnO (st 32) (.str "law_uf060002_11" 500) (.ref 250)),(257,co "_law_entry" "_law_entry" 510 192 3 252 253 (.ref 254) (.ref 255) 256 516),(258,fnO (st 33) (.str "law_uf060002_11" 500) (.ref 257)),(264,co "_law_free_days" "_law_free_days" 519 194 2 259 260 (.ref 261) (.ref 262) 263 530),(265,fnO (st 34) (.str "law_uf060002_11" 500) (.ref 264)),(269,co "_law_parted" "_law_parted" 533 203 2 266 267 (.none) (.none) 268 536),(270,fnO (st 35) (.str "law_uf060002_11" 500) (.ref 269)),(274,co "law" "law" 539 211 1 271 272 (.none) (.none) 273 542),(275,fnO (st 36) (.str "law_uf060002_11" 500) (.ref 274))]
noncomputable def hA:List Addr:=[3,20,21,27,28,34,35,41,42,46,47,53,54,63,64,76,77,88,89,100,101,109,110,114,115,119,120,124,125,131,132,136,137,141,142,148,149,153,154,158,159,172,173,179,180,184,185,191,192,198,199,205,206,212,213,217,218,222,223,229,230,236,237,239,240,250,251,257,258,264,265,269,270,274,275]
noncomputable def qv:Hi:={ pw with main:={ pw.main with body:=[st 36] } }
noncomputable def lsv:List Str:=[("_wall" : Str),("MOST_DAY" : Str),("MOST_CENTS" : Str),("is_whole" : Str),("is_entry" : Str),("entry_of" : Str),("in_order" : Str),("groups" : Str),("TickError" : Str),("BadEntry" : Str),("BadSpan" : Str),("TooMany" : Str),("MOST_BESIDE" : Str),("is_rising" : Str),("marks_of" : Str),("fits" : Str),("rows_of" : Str),("by_size" : Str),("within" : Str),("without" : Str),("taken_out" : Str),("table" : Str),("picked" : Str),("MOST_SPAN" : Str),("MOST_MARKS" : Str),("Ledger" : Str),("_law_cell_at" : Str),("_law_entry" : Str),("_law_free_days" : Str),("_law_parted" : Str)]
noncomputable def hH:Hook:=kHook hK hA (λ_=>by kernel_rfl)
noncomputable def hX(s:Shared):Bool:=xlAt qv [] s&&recOk [] s
noncomputable def dL:DefRec×List (Str×Expr):=(defOf qv "law").get (by kernel_rfl)
theorem zyu:rw_.wellSaid=true:=by
 rw[PySem.W.Fast.te9446332074065402090]
 kernel_rfl
theorem ztY(w:World)(os:OsState):(PySem.W.Fast.tw10110043849684766642 PySem.W.Fast.tw14364793385576792824 pw w 11 (some (.ref 6)) 0 2081 (zmV w os) (topStub pw)).map (λr=>zgG pw qv lsv hX hH.obs w.params r.2.1.abs)=some (true,openGood qv lsv,hH.val w):=by kernel_rfl
theorem left:LeftO pw qv lsv hX hH.obs hH.val 2081:=by
 refine zlF (by kernel_rfl) (by kernel_rfl) (λs=>by kernel_rfl) λw os=>?_;rw[PySem.W.Fast.te10110043849684766642,PySem.W.Fast.te14364793385576792824];exact ztY w os
theorem hd(h:WalkO qv lsv (XL qv []) hH.says rw_.row.toRowW dL.1 dL.2 λf vs=>PySem.call f vs):rw_.Holds:=by
 refine holds_law zyu λsaid'=>?_;refine holds_open (q:=qv) (loose:=lsv) (Xt:=hX) (XP:=XL qv []) (Yf:=hH.obs) (Ya:=hH.val) (YP:=hH.says) (N:=2081) (d:=dL.1) (kwd:=dL.2) left hH.of hH.keeps (λs e=>xl_of s (gO.mp e).1) XL.keeps (by kernel_rfl) (by kernel_rfl) (by kernel_rfl) (λs e=>recFacts_of (gO.mp e).2) (by kernel_rfl) said' (by kernel_rfl) ⟨rfl,rfl,rfl,rfl,rfl,by decide +kernel⟩ ?hw h;exact⟨[.list []],by decide +kernel,by decide +kernel⟩
theorem dL_name:dL.1.name = "law":=by kernel_rfl
end
open A renaming loc -> Ga, cons -> Gb, k -> Gc, nil -> Ge, set -> Gf, idx -> Gg, bin -> Gh, cmp -> Gi, wE -> Gj, prim -> Gk, ret -> Gm, lst -> Gn, itP -> Gp, if_ -> Gq, tup -> Gr, wI -> Gs, lc -> Gu, fr -> Gv, ex -> Gw, wR -> Gx, wN -> Gy, noX -> Gz, meth -> G0, new -> G1, wU -> G2, wS -> G3, neg -> G4, wT -> G5, kEz -> G6
section
set_option maxRecDepth 1000000
noncomputable abbrev KOf(f:Addr)(m:Cx->AS)(as:List AV)(l:Loc):Prop:=∀{P:Hk} {X:Cx} {n:Nat} {hb:Bool} {Q:zk} {Z:XP} {O:AHeap},Gd X (hK P)->n<600->(∀L,m (X.push L) ⟨n+1,hb⟩ l (A.w8 Q) (G6 Z) O)->CallOk X f ⟨n,hb⟩ as Q Z O
variable{a0 a1 a2 a3 a4 a5:AV}
noncomputable def exs:List (Addr×List Addr):=[]
theorem zrY(P:Hk):zgL (hK P) exs:=λp hp=>nomatch hp
theorem kOf{f:Addr}{m:Cx->AS}{as:List AV}{l:Loc}{refs:List (Nat×Nat)}{v:List Str}{k:Nat}(c:∀P X,cF X (hK P) 240 exs f refs (List.take k v) (List.zipIdx v)=some (m X))(b:∀P vs,vs.length=(List.take k v).length->(zf3 (hK P) f).map (λfd=>bindArgs fd ⟨vs,[]⟩)=some (pure ((List.take k v).zip vs)))(hl:as.length=(List.take k v).length)(e:zge as (qV (List.zipIdx v))=l):KOf f m as l:=λ{P} _ _ _ _ _ _ G hd h=>ztB _ _ G (zrY P) (c P) (b P) hd hl λL=>e▸h L
def zeb(X:Cx):AS:=(Gb (Gm (zgN [A.isa .int (Ga 0),G2 (A.isa .bool (Ga 0))])) Ge)
noncomputable def zeK:List Str:=["thing"]
theorem ziW(P:Hk)(X:Cx):cF X (hK P) 240 exs 28 [] (List.take 1 zeK) (List.zipIdx zeK)=some (zeb X):=by kernel_rfl
theorem zjm:KOf 28 zeb [a0] [some a0]:=@kOf _ _ _ _ _ _ _ ziW (λP=>zbt λa0=>by kernel_rfl) rfl rfl
def zd9(X:Cx):AS:=(Gb (Gq (orL [G2 (Gj X 28 [Ga 0]),G2 (Gj X 28 [Ga 1]),Gi (Ga 1) [(.Eq,(Gc (.int 0)))]]) (Gb (Gm (Gc (.bool false))) Ge) Ge) (Gb (Gm (zgN [Gi (Gc (.int 0)) [(.LtE,(Ga 0)),(.LtE,(Gc (.int 9999)))],Gi (Gh false .Sub (Gc (.int 0)) (Gc (.int 1000000000))) [(.LtE,(Ga 1)),(.LtE,(Gc (.int 1000000000)))]])) Ge))
noncomputable def zeJ:List Str:=["day","cents"]
theorem ziV(P:Hk)(X:Cx):cF X (hK P) 240 exs 35 [] (List.take 2 zeJ) (List.zipIdx zeJ)=some (zd9 X):=by kernel_rfl
theorem zjl:KOf 35 zd9 [a0,a1] [some a0,some a1]:=@kOf _ _ _ _ _ _ _ ziV (λP=>j9 λa0 a1=>by kernel_rfl) rfl rfl
def zd6(X:Cx):AS:=(Gb (Gq (Gi (Gg (Ga 2) (Gc (.int 0))) [(.Eq,(Gc (.str 0)))]) (Gb (Gm (Gg (Ga 0) (Gg (Ga 2) (Gc (.int 1))))) Ge) Ge) (Gb (Gm (Gg (Ga 1) (Gg (Ga 2) (Gc (.int 1))))) Ge))
noncomputable def zeG:List Str:=["banks","books","mark"]
theorem ziS(P:Hk)(X:Cx):cF X (hK P) 240 exs 42 [] (List.take 3 zeG) (List.zipIdx zeG)=some (zd6 X):=by kernel_rfl
theorem zji:KOf 42 zd6 [a0,a1,a2] [some a0,some a1,some a2]:=@kOf _ _ _ _ _ _ _ ziS (λP=>zdt λa0 a1 a2=>by kernel_rfl) rfl rfl
def zd8(X:Cx):AS:=(Gb (Gf 2 (Gu false (Gp (Gk qn false [Gk kN false [Ga 0]])) (.one 4) 2 none (Gr [Gg (Gg (Ga 0) (Ga 4)) (Gc (.int 0)),Gc (.str 0),Ga 4]))) (Gb (Gf 2 (Gh false .Add (Ga 2) (Gu false (Gp (Gk qn false [Gk kN false [Ga 1]])) (.one 4) 2 none (Gr [Gg (Gg (Ga 1) (Ga 4)) (Gc (.int 0)),Gc (.str 1),Ga 4])))) (Gb (Gm (Gu false (Gp (Gk zb7 false [Ga 2])) (.many [4,5,6]) 4 none (Gr [Ga 5,Ga 6]))) Ge)))
noncomputable def zeI:List Str:=["banks","books","rows"]
theorem ziU(P:Hk)(X:Cx):cF X (hK P) 240 exs 47 [] (List.take 2 zeI) (List.zipIdx zeI)=some (zd8 X):=by kernel_rfl
theorem zjk:KOf 47 zd8 [a0,a1] [some a0,some a1,none]:=@kOf _ _ _ _ _ _ _ ziU (λP=>j9 λa0 a1=>by kernel_rfl) rfl rfl
def zcQ(X:Cx):AS:=(Gb (Gf 6 (Gg (Gj X 42 [Ga 0,Ga 1,Ga 5]) (Gc (.int 0)))) (Gb (Gq (orL [Gi (Ga 4) [(.Is,(Gc .none))],Gi (Ga 6) [(.Gt,(Gh false .Add (Ga 4) (Ga 2)))]]) (Gb (Gw (G0 jJ (Ga 3) [Gn true []])) Ge) Ge) (Gb (Gw (G0 jJ (Gg (Ga 3) (G4 (Gc (.int 1)))) [Ga 5])) (Gb (Gf 4 (Ga 6)) Ge))))
def zhG(X:Cx):AS:=(Gb (Gf 3 (Gn true [])) (Gb (Gf 4 (Gc .none)) (Gb (Gv (Gp (Gj X 47 [Ga 0,Ga 1])) (.one 5) (zcQ X)) (Gb (Gm (Ga 3)) Ge))))
noncomputable def ziy:List Str:=["banks","books","span","found","last","mark","day"]
theorem zm5(P:Hk)(X:Cx):cF X (hK P) 240 exs 54 [(22,12),(27,25)] (List.take 3 ziy) (List.zipIdx ziy)=some (zhG X):=by kernel_rfl
theorem znL:KOf 54 zhG [a0,a1,a2] [some a0,some a1,some a2,none,none,none,none]:=@kOf _ _ _ _ _ _ _ zm5 (λP=>zdt λa0 a1 a2=>by kernel_rfl) rfl rfl
def zea(X:Cx):AS:=(Gb (Gq (G2 (Gi (Gc (.int 0)) [(.LtE,(Gg (Ga 0) (Ga 2))),(.Lt,(Ga 1))])) (Gb (Gm (Gc (.bool false))) Ge) Ge) (Gb (Gq (zgN [Gi (Ga 2) [(.Gt,(Gc (.int 0)))],Gi (Gg (Ga 0) (Ga 2)) [(.LtE,(Gg (Ga 0) (Gh false .Sub (Ga 2) (Gc (.int 1)))))]]) (Gb (Gm (Gc (.bool false))) Ge) Ge) Ge))
def zcR(X:Cx):AS:=(Gb (Gv (Gp (Gk qn false [Gk kN false [Ga 0]])) (.one 2) (zea X)) (Gb (Gm (Gc (.bool true))) Ge))
noncomputable def zc5:List Str:=["places","many","k"]
theorem zgU(P:Hk)(X:Cx):cF X (hK P) 240 exs 110 [] (List.take 2 zc5) (List.zipIdx zc5)=some (zcR X):=by kernel_rfl
theorem zhx:KOf 110 zcR [a0,a1] [some a0,some a1,none]:=@kOf _ _ _ _ _ _ _ zgU (λP=>j9 λa0 a1=>by kernel_rfl) rfl rfl
def zec(X:Cx):AS:=(Gb (Gm (Gh false .Add (Gu false (Gp (Gg (Ga 0) (Gc (.int 0)))) (.one 2) 2 none (Gr [Gc (.str 0),Ga 2])) (Gu false (Gp (Gg (Ga 0) (Gc (.int 1)))) (.one 2) 2 none (Gr [Gc (.str 1),Ga 2])))) Ge)
noncomputable def zeL:List Str:=["match"]
theorem ziX(P:Hk)(X:Cx):cF X (hK P) 240 exs 115 [] (List.take 1 zeL) (List.zipIdx zeL)=some (zec X):=by kernel_rfl
theorem zjn:KOf 115 zec [a0] [some a0]:=@kOf _ _ _ _ _ _ _ ziX (λP=>zbt λa0=>by kernel_rfl) rfl rfl
def zn1(X:Cx):AS:=(Gb (Gf 4 (Gk zol false [Gk kN false [Gg (Ga 3) (Gc (.int 0))],Gk kN false [Gg (Ga 3) (Gc (.int 1))]])) (Gb (Gf 5 (Gk zqi false [Gk kN false [Gg (Ga 3) (Gc (.int 0))],Gk kN false [Gg (Ga 3) (Gc (.int 1))]])) (Gb (Gq (orL [Gi (Ga 4) [(.NotEq,(Gc (.int 1)))],Gi (Ga 5) [(.Gt,(Gc (.int 3)))]]) (Gb (Gm (Gc (.bool false))) Ge) Ge) (Gb (Gq (orL [G2 (Gj X 110 [Gg (Ga 3) (Gc (.int 0)),Gk kN false [Ga 0]]),G2 (Gj X 110 [Gg (Ga 3) (Gc (.int 1)),Gk kN false [Ga 1]])]) (Gb (Gm (Gc (.bool false))) Ge) Ge) (Gb (Gq (Gi (Gk zqj false [Gu false (Gp (Gg (Ga 3) (Gc (.int 0)))) (.one 8) 2 none (Gg (Gg (Ga 0) (Ga 8)) (Gc (.int 1)))]) [(.NotEq,(Gk zqj false [Gu false (Gp (Gg (Ga 3) (Gc (.int 1)))) (.one 8) 2 none (Gg (Gg (Ga 1) (Ga 8)) (Gc (.int 1)))]))]) (Gb (Gm (Gc (.bool false))) Ge) Ge) (Gb (Gf 6 (Gu false (Gp (Gj X 115 [Ga 3])) (.one 8) 2 none (Gg (Gj X 42 [Ga 0,Ga 1,Ga 8]) (Gc (.int 0))))) (Gb (Gm (Gi (Gh false .Sub (Gk zqi false [Ga 6]) (Gk zol false [Ga 6])) [(.LtE,(Ga 2))])) Ge)))))))
noncomputable def zoZ:List Str:=["banks","books","span","match","few","many","days"]
theorem zrR(P:Hk)(X:Cx):cF X (hK P) 240 exs 120 [] (List.take 4 zoZ) (List.zipIdx zoZ)=some (zn1 X):=by kernel_rfl
theorem zsd:KOf 120 zn1 [a0,a1,a2,a3] [some a0,some a1,some a2,some a3,none,none,none]:=@kOf _ _ _ _ _ _ _ zrR (λP=>ziL λa0 a1 a2 a3=>by kernel_rfl) rfl rfl
def zgh(X:Cx):AS:=(Gb (Gf 4 (Gh false .Add (Ga 4) (Gu false (Gp (Ga 0)) (.one 7) 2 (some (orL [Gi (Ga 5) [(.Eq,(Gr []))],Gi (Ga 7) [(.Gt,(Gg (Ga 5) (G4 (Gc (.int 1)))))]])) (Gh false .Add (Ga 5) (Gr [Ga 7]))))) Ge)
def zgg(X:Cx):AS:=(Gb (Gf 4 (Gn false [])) (Gb (Gv (Gp (Ga 2)) (.one 5) (zgh X)) (Gb (Gf 2 (Ga 4)) Ge)))
def zfm(X:Cx):AS:=(Gb (Gf 2 (Gn false [Gr []])) (Gb (Gv (Gp (Gk qn false [Ga 1])) (.one 3) (zgg X)) (Gb (Gm (Ga 2)) Ge)))
noncomputable def zfH:List Str:=["places","many","rows","turn","longer","row"]
theorem zlb(P:Hk)(X:Cx):cF X (hK P) 240 exs 125 [] (List.take 2 zfH) (List.zipIdx zfH)=some (zfm X):=by kernel_rfl
theorem zlB:KOf 125 zfm [a0,a1] [some a0,some a1,none,none,none,none]:=@kOf _ _ _ _ _ _ _ zlb (λP=>j9 λa0 a1=>by kernel_rfl) rfl rfl
def zfj(X:Cx):AS:=(Gb (Gm (Gr [Gh false .Add (Gk kN false [Gg (Ga 0) (Gc (.int 0))]) (Gk kN false [Gg (Ga 0) (Gc (.int 1))]),Ga 0])) Ge)
noncomputable def zfE:List Str:=["match"]
theorem zk8(P:Hk)(X:Cx):cF X (hK P) 240 exs 132 [] (List.take 1 zfE) (List.zipIdx zfE)=some (zfj X):=by kernel_rfl
theorem zly:KOf 132 zfj [a0] [some a0]:=@kOf _ _ _ _ _ _ _ zk8 (λP=>zbt λa0=>by kernel_rfl) rfl rfl
def zcX(X:Cx):AS:=(Gb (Gq (Gj X 120 [Ga 0,Ga 1,Ga 2,Gr [Ga 8,Ga 9]]) (Gb (Gw (G0 jJ (Ga 6) [Gr [Ga 8,Ga 9]])) Ge) Ge) Ge)
def zcW(X:Cx):AS:=(Gb (Gv (Gp (Gj X 125 [Ga 5,Gg (Ga 7) (Gc (.int 1))])) (.one 9) (zcX X)) Ge)
def zcV(X:Cx):AS:=(Gb (Gv (Gp (Gj X 125 [Ga 4,Gg (Ga 7) (Gc (.int 0))])) (.one 8) (zcW X)) Ge)
def zhK(X:Cx):AS:=(Gb (Gf 4 (Gk zb7 false [Gu false (Gp (Ga 3)) (.many [11,12]) 3 (some (Gi (Ga 11) [(.Eq,(Gc (.str 0)))])) (Ga 12)])) (Gb (Gf 5 (Gk zb7 false [Gu false (Gp (Ga 3)) (.many [11,12]) 3 (some (Gi (Ga 11) [(.Eq,(Gc (.str 1)))])) (Ga 12)])) (Gb (Gf 6 (Gn true [])) (Gb (Gv (Gp (Gr [Gr [Gc (.int 1),Gc (.int 1)],Gr [Gc (.int 1),Gc (.int 2)],Gr [Gc (.int 2),Gc (.int 1)],Gr [Gc (.int 1),Gc (.int 3)],Gr [Gc (.int 3),Gc (.int 1)]])) (.one 7) (zcV X)) (Gb (Gm (A.w5 X 132 false (Ga 6))) Ge)))))
noncomputable def ziB:List Str:=["banks","books","span","group","ones","others","found","sizes","left","right"]
theorem zm8(P:Hk)(X:Cx):cF X (hK P) 240 exs 137 [(75,12)] (List.take 4 ziB) (List.zipIdx ziB)=some (zhK X):=by kernel_rfl
theorem znO:KOf 137 zhK [a0,a1,a2,a3] [some a0,some a1,some a2,some a3,none,none,none,none,none,none]:=@kOf _ _ _ _ _ _ _ zm8 (λP=>ziL λa0 a1 a2 a3=>by kernel_rfl) rfl rfl
def zgi(X:Cx):AS:=(Gb (Gq (Gi (Ga 2) [(.NotIn,(Ga 0))]) (Gb (Gm (Gc .none)) Ge) Ge) Ge)
def zfn(X:Cx):AS:=(Gb (Gv (Gp (Ga 1)) (.one 2) (zgi X)) (Gb (Gm (Gk zen false [Gu false (Gp (Ga 0)) (.one 4) 2 (some (Gi (Ga 4) [(.NotIn,(Ga 1))])) (Ga 4)])) Ge))
noncomputable def zfI:List Str:=["rest","marks","mark"]
theorem zlc(P:Hk)(X:Cx):cF X (hK P) 240 exs 142 [] (List.take 2 zfI) (List.zipIdx zfI)=some (zfn X):=by kernel_rfl
theorem zlC:KOf 142 zfn [a0,a1] [some a0,some a1,none]:=@kOf _ _ _ _ _ _ _ zlc (λP=>j9 λa0 a1=>by kernel_rfl) rfl rfl
def zee(X:Cx):AS:=(Gb (Gf 4 (Gj X 115 [Ga 3])) (Gb (Gq (Gi (Gg (Ga 0) (Gc (.int 0))) [(.In,(Ga 4))]) (Gb (Gf 5 (Gj X 142 [Ga 0,Ga 4])) (Gb (Gq (Gi (Ga 5) [(.IsNot,(Gc .none))]) (Gb (Gw (G0 jJ (Ga 2) [Gr [Ga 3,Ga 5]])) Ge) Ge) Ge)) Ge) Ge))
def zcU(X:Cx):AS:=(Gb (Gf 2 (Gn true [])) (Gb (Gv (Gp (Ga 1)) (.one 3) (zee X)) (Gb (Gm (Ga 2)) Ge)))
noncomputable def zc7:List Str:=["rest","matches","found","match","marks","behind"]
theorem zgW(P:Hk)(X:Cx):cF X (hK P) 240 exs 149 [(89,12)] (List.take 2 zc7) (List.zipIdx zc7)=some (zcU X):=by kernel_rfl
theorem zhz:KOf 149 zcU [a0,a1] [some a0,some a1,none,none,none,none]:=@kOf _ _ _ _ _ _ _ zgW (λP=>j9 λa0 a1=>by kernel_rfl) rfl rfl
def zbA(X:Cx):AS:=(Gb (Gq (Gi (Ga 8) [(.NotIn,(Ga 3))]) (Gb (A.w6 (Gc (.bool true)) (Ga 3) (Ga 8)) (Gb (Gw (G0 jJ (Ga 4) [Ga 8])) Ge)) Ge) Ge)
def zjp(X:Cx):AS:=(Gb (Gf 6 (Gg (Ga 4) (Ga 5))) (Gb (Gf 5 (Gh false .Add (Ga 5) (Gc (.int 1)))) (Gb (Gf 7 (Gn false [])) (Gb (Gq (Gi (Ga 6) [(.NotEq,(Gr []))]) (Gb (Gf 7 (Gh false .Add (Gn false [G3 false (Ga 6) (some (Gc (.int 1))) none]) (Gu false (Gp (Gj X 149 [Ga 6,Ga 1])) (.many [12,13]) 3 none (Ga 13)))) Ge) Ge) (Gb (Gv (Gp (Ga 7)) (.one 8) (zbA X)) Ge)))))
def zed(X:Cx):AS:=(Gb (A.w6 (Gc (.int 0)) (Ga 9) (Ga 6)) (Gb (Gq (Gi (Ga 6) [(.NotEq,(Gr []))]) (Gb (Gf 10 (Gu false (Gp (Gj X 149 [Ga 6,Ga 1])) (.many [12,13]) 3 none (Gg (Ga 9) (Ga 13)))) (Gb (A.w6 (Gk zol false [Gh false .Add (Gn false [Gh false .Add (Gc (.int 1)) (Gg (Ga 9) (G3 false (Ga 6) (some (Gc (.int 1))) none))]) (Ga 10)]) (Ga 9) (Ga 6)) Ge)) Ge) Ge))
def zkC(X:Cx):AS:=(Gb (Gf 2 (Gk zen false [Ga 0])) (Gb (Gf 3 (A.dT1 (Ga 2) (Gc (.bool true)))) (Gb (Gf 4 (Gn true [Ga 2])) (Gb (Gf 5 (Gc (.int 0))) (Gb (A.w0 (Gi (Ga 5) [(.Lt,(Gk kN false [Ga 4]))]) (zjp X)) (Gb (Gf 9 A.dT0) (Gb (Gv (Gp (A.wZ false (Ga 4))) (.one 6) (zed X)) (Gb (Gm (Ga 9)) Ge))))))))
noncomputable def zkY:List Str:=["group","matches","begin","met","row","at","rest","nexts","behind","least","some"]
theorem zpi(P:Hk)(X:Cx):cF X (hK P) 240 exs 154 [(100,10)] (List.take 2 zkY) (List.zipIdx zkY)=some (zkC X):=by kernel_rfl
theorem zpN:KOf 154 zkC [a0,a1] [some a0,some a1,none,none,none,none,none,none,none,none,none]:=@kOf _ _ _ _ _ _ _ zpi (λP=>j9 λa0 a1=>by kernel_rfl) rfl rfl
def zhJ(X:Cx):AS:=(Gb (Gf 5 (Gu false (Gp (Gj X 149 [Ga 3,Ga 1])) (.many [7,8]) 3 (some (Gi (Gg (Ga 2) (Ga 8)) [(.Eq,(Gg (Ga 2) (Ga 3)))])) (Gr [Ga 7,Ga 8]))) (Gb (Gq (Gi (Ga 5) [(.Eq,(Gn false []))]) (Gb (Gf 3 (G3 false (Ga 3) (some (Gc (.int 1))) none)) Ge) (Gb (Gw (G0 jJ (Ga 4) [Gg (Gg (Ga 5) (Gc (.int 0))) (Gc (.int 0))])) (Gb (Gf 3 (Gg (Gg (Ga 5) (Gc (.int 0))) (Gc (.int 1)))) Ge))) Ge))
def zhI(X:Cx):AS:=(Gb (Gf 2 (Gj X 154 [Ga 0,Ga 1])) (Gb (Gf 3 (Gk zen false [Ga 0])) (Gb (Gf 4 (Gn true [])) (Gb (A.w0 (Gi (Ga 3) [(.NotEq,(Gr []))]) (zhJ X)) (Gb (Gm (Ga 4)) Ge)))))
noncomputable def ziA:List Str:=["group","matches","least","rest","found","good"]
theorem zm7(P:Hk)(X:Cx):cF X (hK P) 240 exs 159 [(122,12)] (List.take 2 ziA) (List.zipIdx ziA)=some (zhI X):=by kernel_rfl
theorem znN:KOf 159 zhI [a0,a1] [some a0,some a1,none,none,none,none]:=@kOf _ _ _ _ _ _ _ zm7 (λP=>j9 λa0 a1=>by kernel_rfl) rfl rfl
def zn2(X:Cx):AS:=(Gb (Gq (orL [G2 (Gj X 28 [Ga 1]),G2 (Gi (Gc (.int 0)) [(.LtE,(Ga 1)),(.LtE,(Gc (.int 30)))])]) (Gb A.wL Ge) Ge) (Gb (G5 240 3 (Ga 0) (Ga 1)) (Gb (G5 240 4 (Ga 0) (A.dic [((Gc (.str 0)),(Gn true [])),((Gc (.str 1)),(Gn true []))])) (Gb (G5 240 5 (Ga 0) (Gn true [])) (Gb (G5 240 6 (Ga 0) (Gn true [])) Ge)))))
noncomputable def zo0:List Str:=["self","span"]
theorem zrS(P:Hk)(X:Cx):cF X (hK P) 240 exs 173 [(141,22),(142,22),(140,29),(140,41)] (List.take 2 zo0) (List.zipIdx zo0)=some (zn2 X):=by kernel_rfl
theorem zse:KOf 173 zn2 [a0,a1] [some a0,some a1]:=@kOf _ _ _ _ _ _ _ zrS (λP=>j9 λa0 a1=>by kernel_rfl) rfl rfl
def zbY(X:Cx):AS:=(Gb (Gm (Gj X 54 [Gg (Gx 240 4 (Ga 0)) (Gc (.str 0)),Gg (Gx 240 4 (Ga 0)) (Gc (.str 1)),Gx 240 3 (Ga 0)])) Ge)
noncomputable def zcl:List Str:=["self"]
theorem zfU(P:Hk)(X:Cx):cF X (hK P) 240 exs 180 [] (List.take 1 zcl) (List.zipIdx zcl)=some (zbY X):=by kernel_rfl
theorem zgb:KOf 180 zbY [a0] [some a0]:=@kOf _ _ _ _ _ _ _ zfU (λP=>zbt λa0=>by kernel_rfl) rfl rfl
def zn5(X:Cx):AS:=(Gb (G5 240 5 (Ga 0) (Gu true (Gp (Gx 240 5 (Ga 0))) (.one 4) 2 (some (Gi (Gg (Gj X 115 [Ga 4]) (Gc (.int 0))) [(.NotIn,(Ga 1))])) (Ga 4))) (Gb (Gf 2 (Gj X 137 [Gg (Gx 240 4 (Ga 0)) (Gc (.str 0)),Gg (Gx 240 4 (Ga 0)) (Gc (.str 1)),Gx 240 3 (Ga 0),Ga 1])) (Gb (G5 240 5 (Ga 0) (Gh true .Add (Gx 240 5 (Ga 0)) (Gj X 159 [Ga 1,Gu false (Gp (Ga 2)) (.one 4) 2 (some (Gi (Ga 4) [(.NotIn,(Gx 240 6 (Ga 0)))])) (Ga 4)]))) Ge)))
noncomputable def zo2:List Str:=["self","group","some"]
theorem zrU(P:Hk)(X:Cx):cF X (hK P) 240 exs 185 [(148,22),(150,22)] (List.take 2 zo2) (List.zipIdx zo2)=some (zn5 X):=by kernel_rfl
theorem zsg:KOf 185 zn5 [a0,a1] [some a0,some a1,none]:=@kOf _ _ _ _ _ _ _ zrU (λP=>j9 λa0 a1=>by kernel_rfl) rfl rfl
def zrn(X:Cx):AS:=(Gb (Gq (orL [Gi (Ga 1) [(.NotIn,(Gr [Gc (.str 0),Gc (.str 1)]))],G2 (Gj X 35 [Ga 2,Ga 3])]) (Gb A.wL Ge) Ge) (Gb (Gf 4 (Gg (Gx 240 4 (Ga 0)) (Ga 1))) (Gb (Gw (G0 jJ (Ga 4) [Gr [Ga 2,Ga 3]])) (Gb (Gf 5 (Gs X 240 none 223 (Ga 0) [Ga 1,Gh false .Sub (Gk kN false [Ga 4]) (Gc (.int 1))])) (Gb (Gq (Gi (Gk kN false [Ga 5]) [(.Gt,(Gc (.int 8)))]) (Gb (Gw (G0 zsn (Ga 4) [])) (Gb A.wL Ge)) Ge) (Gb (Gw (Gs X 240 none 185 (Ga 0) [Ga 5])) (Gb (Gm (Gh false .Sub (Gk kN false [Ga 4]) (Gc (.int 1)))) Ge)))))))
noncomputable def zrz:List Str:=["self","side","day","cents","row","group"]
theorem ztA(P:Hk)(X:Cx):cF X (hK P) 240 exs 192 [(155,14)] (List.take 4 zrz) (List.zipIdx zrz)=some (zrn X):=by kernel_rfl
theorem ztX:KOf 192 zrn [a0,a1,a2,a3] [some a0,some a1,some a2,some a3,none,none]:=@kOf _ _ _ _ _ _ _ ztA (λP=>ziL λa0 a1 a2 a3=>by kernel_rfl) rfl rfl
def zkB(X:Cx):AS:=(Gb (Gm (Gg (Gg (Gx 240 4 (Ga 0)) (Ga 1)) (Ga 2))) Ge)
noncomputable def zkX:List Str:=["self","side","place"]
theorem zph(P:Hk)(X:Cx):cF X (hK P) 240 exs 199 [] (List.take 3 zkX) (List.zipIdx zkX)=some (zkB X):=by kernel_rfl
theorem zpM:KOf 199 zkB [a0,a1,a2] [some a0,some a1,some a2]:=@kOf _ _ _ _ _ _ _ zph (λP=>zdt λa0 a1 a2=>by kernel_rfl) rfl rfl
def zfl(X:Cx):AS:=(Gb (Gm (A.w5 X 132 false (Gx 240 5 (Ga 0)))) Ge)
noncomputable def zfG:List Str:=["self"]
theorem zla(P:Hk)(X:Cx):cF X (hK P) 240 exs 206 [] (List.take 1 zfG) (List.zipIdx zfG)=some (zfl X):=by kernel_rfl
theorem zlA:KOf 206 zfl [a0] [some a0]:=@kOf _ _ _ _ _ _ _ zla (λP=>zbt λa0=>by kernel_rfl) rfl rfl
def zhF(X:Cx):AS:=(Gb (Gm (Gk zok false [Gx 240 6 (Ga 0)])) Ge)
noncomputable def zix:List Str:=["self"]
theorem zm4(P:Hk)(X:Cx):cF X (hK P) 240 exs 213 [] (List.take 1 zix) (List.zipIdx zix)=some (zhF X):=by kernel_rfl
theorem znK:KOf 213 zhF [a0] [some a0]:=@kOf _ _ _ _ _ _ _ zm4 (λP=>zbt λa0=>by kernel_rfl) rfl rfl
def zlL(X:Cx):AS:=(Gb (Gf 2 (Gh false .Add (Ga 2) (Gj X 115 [Ga 3]))) Ge)
def zn3(X:Cx):AS:=(Gb (Gf 2 (Gn false [])) (Gb (Gv (Gp (Gx 240 5 (Ga 0))) (.one 3) (zlL X)) (Gb (Gm (Gu false (Gp (Gk qn false [Gk kN false [Gg (Gx 240 4 (Ga 0)) (Ga 1)]])) (.one 5) 2 (some (Gi (Gr [Ga 1,Ga 5]) [(.NotIn,(Ga 2))])) (Ga 5))) Ge)))
noncomputable def zo1:List Str:=["self","side","told","match"]
theorem zrT(P:Hk)(X:Cx):cF X (hK P) 240 exs 218 [] (List.take 2 zo1) (List.zipIdx zo1)=some (zn3 X):=by kernel_rfl
theorem zsf:KOf 218 zn3 [a0,a1] [some a0,some a1,none,none]:=@kOf _ _ _ _ _ _ _ zrT (λP=>j9 λa0 a1=>by kernel_rfl) rfl rfl
def zd7(X:Cx):AS:=(Gb (Gm (Gg (Gu false (Gp (Gs X 240 none 180 (Ga 0) [])) (.one 4) 2 (some (Gi (Gr [Ga 1,Ga 2]) [(.In,(Ga 4))])) (Ga 4)) (Gc (.int 0)))) Ge)
noncomputable def zeH:List Str:=["self","side","place"]
theorem ziT(P:Hk)(X:Cx):cF X (hK P) 240 exs 223 [] (List.take 3 zeH) (List.zipIdx zeH)=some (zd7 X):=by kernel_rfl
theorem zjj:KOf 223 zd7 [a0,a1,a2] [some a0,some a1,some a2]:=@kOf _ _ _ _ _ _ _ ziT (λP=>zdt λa0 a1 a2=>by kernel_rfl) rfl rfl
def zfk(X:Cx):AS:=(Gb (Gq (Gi (Ga 1) [(.Lt,(Gk kN false [Ga 0]))]) (Gb (Gm (Gg (Ga 0) (Ga 1))) Ge) Ge) (Gb (Gm (Gc (.int 0))) Ge))
noncomputable def zfF:List Str:=["_law_script","_law_k"]
theorem zk9(P:Hk)(X:Cx):cF X (hK P) 240 exs 251 [] (List.take 2 zfF) (List.zipIdx zfF)=some (zfk X):=by kernel_rfl
theorem zlz:KOf 251 zfk [a0,a1] [some a0,some a1]:=@kOf _ _ _ _ _ _ _ zk9 (λP=>j9 λa0 a1=>by kernel_rfl) rfl rfl
def zcS(X:Cx):AS:=(Gb (Gm (Gr [Gg (Gn false [Gc (.str 0),Gc (.str 1)]) (Gh false .Mod (Ga 0) (Gc (.int 2))),Gh false .Mod (Gh false .FloorDiv (Ga 0) (Gc (.int 2))) (Ga 1),Gh false .Mult (Gg (Gn false [Gc (.int 1),Gc (.int 2),Gc (.int 3),Gc (.int 4),Gc (.int 5),Gc (.int 7),G4 (Gc (.int 2)),G4 (Gc (.int 3))]) (Gh false .Mod (Gh false .FloorDiv (Ga 0) (Gc (.int 7))) (Gc (.int 8)))) (Ga 2)])) Ge)
noncomputable def zc6:List Str:=["_law_cell","_law_days","_law_scale"]
theorem zgV(P:Hk)(X:Cx):cF X (hK P) 240 exs 258 [] (List.take 3 zc6) (List.zipIdx zc6)=some (zcS X):=by kernel_rfl
theorem zhy:KOf 258 zcS [a0,a1,a2] [some a0,some a1,some a2]:=@kOf _ _ _ _ _ _ _ zgV (λP=>zdt λa0 a1 a2=>by kernel_rfl) rfl rfl
def zaW(X:Cx):AS:=(Gb (Gq (Gi (Ga 5) [(.In,(Ga 7))]) (Gb (A.w6 (Gh false .Add (Gg (Ga 2) (Ga 6)) (Gc (.int 1))) (Ga 2) (Ga 6)) Ge) Ge) Ge)
def zaV(X:Cx):AS:=(Gb (Gf 5 (Gg (Gs X 240 (some 7) 199 (Ga 0) [Ga 3,Ga 4]) (Gc (.int 0)))) (Gb (Gv (A.itE (Ga 1)) (.many [6,7]) (zaW X)) Ge))
def zaU(X:Cx):AS:=(Gb (Gv (Gp (Gs X 240 none 218 (Ga 0) [Ga 3])) (.one 4) (zaV X)) Ge)
def zcP(X:Cx):AS:=(Gb (Gf 2 (Gh true .Mult (Gn true [Gc (.int 0)]) (Gk kN false [Ga 1]))) (Gb (Gv (Gp (Gr [Gc (.str 0),Gc (.str 1)])) (.one 3) (zaU X)) (Gb (Gm (Ga 2)) Ge)))
noncomputable def zc4:List Str:=["_law_ledger","_law_days","_law_rows","_law_side","_law_place","_law_day","_law_k","_law_group"]
theorem zgT(P:Hk)(X:Cx):cF X (hK P) 240 exs 265 [(195,16)] (List.take 2 zc4) (List.zipIdx zc4)=some (zcP X):=by kernel_rfl
theorem zhw:KOf 265 zcP [a0,a1] [some a0,some a1,none,none,none,none,none,none]:=@kOf _ _ _ _ _ _ _ zgT (λP=>j9 λa0 a1=>by kernel_rfl) rfl rfl
def zcT(X:Cx):AS:=(Gb (Gq (orL [Gi (Ga 4) [(.Eq,(Gc (.int 0)))],Gi (Gh false .Sub (Ga 5) (Gg (Ga 2) (Gh false .Sub (Ga 4) (Gc (.int 1))))) [(.Gt,(Ga 1))]]) (Gb (Gf 3 (Gh true .Add (Ga 3) (Gn true [Gn true []]))) Ge) Ge) (Gb (Gw (G0 jJ (Gg (Ga 3) (G4 (Gc (.int 1)))) [Ga 5])) Ge))
def zhH(X:Cx):AS:=(Gb (Gf 2 (Gk zem false [Gu false (Gp (Ga 0)) (.one 7) 2 none (Gg (Ga 7) (Gc (.int 1)))])) (Gb (Gf 3 (Gn true [])) (Gb (Gv (A.itE (Ga 2)) (.many [4,5]) (zcT X)) (Gb (Gm (Ga 3)) Ge))))
noncomputable def ziz:List Str:=["_law_entries","_law_span","_law_days","_law_found","_law_k","_law_day"]
theorem zm6(P:Hk)(X:Cx):cF X (hK P) 240 exs 270 [(205,17),(208,25),(208,38),(208,39)] (List.take 2 ziz) (List.zipIdx ziz)=some (zhH X):=by kernel_rfl
theorem znM:KOf 270 zhH [a0,a1] [some a0,some a1,none,none,none,none]:=@kOf _ _ _ _ _ _ _ zm6 (λP=>j9 λa0 a1=>by kernel_rfl) rfl rfl
def zaX(X:Cx):AS:=(Gb (Gw (Gs X 240 none 192 (Ga 9) [Gg (Gg (Ga 6) (Ga 5)) (Gc (.int 0)),Gg (Gg (Ga 6) (Ga 5)) (Gc (.int 1)),Gg (Gg (Ga 6) (Ga 5)) (Gc (.int 2))])) (Gb (Gw (Gs X 240 none 192 (Ga 10) [Gg (Gg (Ga 8) (Ga 5)) (Gc (.int 0)),Gg (Gg (Ga 8) (Ga 5)) (Gc (.int 1)),Gg (Gg (Ga 8) (Ga 5)) (Gc (.int 2))])) Ge))
def zrm(X:Cx):AS:=(Gb (Gf 1 (Gh false .Mod (Gj X 251 [Ga 0,Gc (.int 0)]) (Gc (.int 31)))) (Gb (Gq (Gi (Gh false .Mod (Gh false .FloorDiv (Gj X 251 [Ga 0,Gc (.int 0)]) (Gc (.int 31))) (Gc (.int 2))) [(.Eq,(Gc (.int 1)))]) (Gb (Gf 1 (Gh false .Mod (Ga 1) (Gc (.int 4)))) Ge) Ge) (Gb (Gf 2 (Gg (Gn false [Gc (.int 5),Gc (.int 20),Gc (.int 5),Gc (.int 10000)]) (Gh false .Mod (Gj X 251 [Ga 0,Gc (.int 1)]) (Gc (.int 4))))) (Gb (Gf 3 (Gh false .Add (Gc (.int 1)) (Gh false .Mult (Gh false .Mod (Gh false .FloorDiv (Gj X 251 [Ga 0,Gc (.int 1)]) (Gc (.int 4))) (Gc (.int 2))) (Gh false .Mod (Gh false .FloorDiv (Gj X 251 [Ga 0,Gc (.int 1)]) (Gc (.int 8))) (Gh false .Pow (Gc (.int 10)) (Gc (.int 8))))))) (Gb (Gf 4 (Gh false .Mod (Gj X 251 [Ga 0,Gc (.int 2)]) (Gc (.int 9)))) (Gb (Gf 6 (Gu false (Gp (Gk qn false [Ga 4])) (.one 14) 2 none (Gj X 258 [Gh false .Add (Gh false .Mult (Gj X 251 [Ga 0,Gh false .Add (Gc (.int 4)) (Ga 14)]) (Gc (.int 48271))) (Gh false .Mult (Gc (.int 31)) (Ga 14)),Ga 2,Ga 3]))) (Gb (Gf 7 (Gh false .Mod (Gj X 251 [Ga 0,Gc (.int 3)]) (Gh false .Add (Ga 4) (Gc (.int 1))))) (Gb (Gf 8 (Gh false .Add (G3 false (Ga 6) (some (Ga 7)) none) (G3 false (Ga 6) none (some (Ga 7))))) (Gb (Gq (Gi (Gh false .Mod (Gh false .FloorDiv (Gj X 251 [Ga 0,Gc (.int 3)]) (Gc (.int 11))) (Gc (.int 2))) [(.Eq,(Gc (.int 1)))]) (Gb (Gf 8 (Gk zhU false [Ga 8])) Ge) Ge) (Gb (Gf 9 (G1 X 240 173 [Ga 1])) (Gb (Gf 10 (G1 X 240 173 [Ga 1])) (Gb (Gf 11 (G1 X 240 173 [Ga 1])) (Gb (Gv (Gp (Gk qn false [Ga 4])) (.one 5) (zaX X)) (Gb (Gf 12 (Gj X 270 [Ga 6,Ga 1])) (Gb (Gq (orL [Gi (Gs X 240 (some 17) 206 (Ga 11) []) [(.NotEq,(Gn false []))],Gi (Gs X 240 none 218 (Ga 11) [Gc (.str 0)]) [(.NotEq,(Gn false []))],Gi (Gs X 240 none 218 (Ga 11) [Gc (.str 1)]) [(.NotEq,(Gn false []))],Gi (Gs X 240 (some 18) 213 (Ga 11) []) [(.NotEq,(Gn false []))]]) (Gb (Gm (Gc (.bool false))) Ge) Ge) (Gb (Gm (Gi (Gj X 265 [Ga 9,Ga 12]) [(.Eq,(Gj X 265 [Ga 10,Ga 12]))])) Ge))))))))))))))))
noncomputable def zry:List Str:=["_law_script","_law_span","_law_days","_law_scale","_law_many","_law_k","_law_entries","_law_turn","_law_others","_law_one","_law_other","_law_third","_law_parts"]
theorem ztz(P:Hk)(X:Cx):cF X (hK P) 240 exs 275 [] (List.take 1 zry) (List.zipIdx zry)=some (zrm X):=by kernel_rfl
theorem ztW:KOf 275 zrm [a0] [some a0,none,none,none,none,none,none,none,none,none,none,none,none]:=@kOf _ _ _ _ _ _ _ ztz (λP=>zbt λa0=>by kernel_rfl) rfl rfl
end
section
variable{P:Hk}{X:Cx}{n:Nat}{Q:zk}{Z:XP}{O:AHeap}
theorem jA{J:Type}{f:J->AV}{xs:List J}{k:Nat}{x:J}(h:xs[k]? = some x):j8 (xs.map f) (k:Int)=some (f x):=by rw[atIdx_nat,fA8,h];rfl
theorem jl(G:Gd X (hK P))(hd:n<590){ns:List Int}{k:Nat}(q:Q (.int (ns.getD k 0)) O):CallOk X 251 ⟨n,false⟩ [.lst (ns.map .int),.int k] Q Z O:=by
 refine zlz G (gD hd (by decide)) λL=>?_;refine zcD (λh=>?_) λh=>?_
 .have h:=H0 h;rw[fC] at h;have hk:k<ns.length:=zzw h;have e:ns[k]? = some (ns.getD k 0):=by rw[fQ,fJ hk];rfl
  exact zi (jA e) (Ends.same q)
 .have h:=of_decide_eq_false h;rw[fC] at h;have hk:ns.length<=k:=zAy h;rw[fQ,fAF hk] at q;exact Ends.same q
abbrev Mt:=List Int×List Int
noncomputable def z8(m:Mt):AV:=.tup [.tup (m.1.map .int),.tup (m.2.map .int)]
noncomputable def ze(m:Mt):List zc:=m.1.map (λk=>(false,k))++m.2.map λk=>(true,k)
theorem ziM{hb:Bool}(G:Gd X (hK P))(hd:n<590){m:Mt}(q:Q (.tup [.int ((m.1.length:Int)+m.2.length),z8 m]) O):CallOk X 132 ⟨n,hb⟩ [z8 m] Q Z O:=by
 refine zly G (gD hd (by decide)) λL=>?_
 conv=>whnf
 rw[fC,fC];exact Ends.same q
theorem kj(G:Gd X (hK P))(hd:n<590){m:Mt}(h1:m.1.length<=1000)(h2:m.2.length<=1000)(q:Q (.lst ((ze m).map zT)) O):CallOk X 115 ⟨n,false⟩ [z8 m] Q Z O:=by
 refine zjn G (gD hd (by decide)) λL=>?_;refine js (λk=>zT (false,k)) (λ_=>rfl) (λ_ _=>rfl) (λx _ R q=>q) trivial (ziF h1) ?_;refine js (λk=>zT (true,k)) (λ_=>rfl) (λ_ _=>rfl) (λx _ R q=>q) trivial (ziF h2) ?_;refine zV (by rw[fC,fC];exact zww h1 h2) (Ends.same ?_);unfold ze at q;rw[fW,gA,gA] at q;exact q
theorem zaR(G:Gd X (hK P))(hd:n<590){i:Int}(q:Q (.bool true) O):CallOk X 28 ⟨n,false⟩ [.int i] Q Z O:=
 zjm G (gD hd (by decide)) λL=>Ends.same q
noncomputable def zaM(d c:Int):Bool:=decide (0<=d)&&decide (d<=9999)&&decide (0-1000000000<=c)&&decide (c<=1000000000)&&!decide (c=0)
theorem zht(G:Gd X (hK P))(hd:n<580){i c:Int}(q:Q (.bool (zaM i c)) O):CallOk X 35 ⟨n,false⟩ [.int i,.int c] Q Z O:=by
 refine zjl G (gD hd (by decide)) λL=>?_;refine zaR (G.push L) (ziE hd) ?_;refine zaR (G.push L) (ziE hd) ?_;have fin:∀b,zaM i c=b->Ends Q (.bool b) O:=λb e=>Ends.same (e▸q);unfold zaM at fin
 repeat' ((conv=>whnf);(refine zcD (λ_=>?_) λ_=>?_))
 all_goals (refine fin _ ?_;simp only[*,fDG,fB7,fDV,Bool.false_and,fB6,fDX])
theorem zcH(G:Gd X (hK P))(hd:n<590){pb pk:Addr}{es fs:List AV}{m:zc}{k:Nat}{e:AV}(hb:O pb=some (.list es))(hk:O pk=some (.list fs))(he:(if m.1 then fs else es)[k]? = some e)(hm:m.2=k)(q:Q e O) :
  CallOk X 42 ⟨n,false⟩ [.ref pb,.ref pk,zT m] Q Z O:=by
 obtain⟨b,i⟩:=m;cases hm;refine zji G (gD hd (by decide)) λL=>?_;cases b with
 | false=>
  refine jj hb (zi (atIdx_nat.trans he) (Ends.same q))
 | true=>
  refine jj hk (zi (atIdx_nat.trans he) (Ends.same q))
theorem zgk(m:zc):Flat 1 (zT m):=.tup λx hx=>by
 rcases fM.mp hx with rfl|hx
 .exact .str (by cases m.1<;>decide)
 .rcases fM.mp hx with rfl|hx
  .exact .int _
  .cases hx
theorem zoc{m m':zc}(h:zT m=zT m'):m=m':=by
 obtain⟨b,i⟩:=m;obtain⟨b',i'⟩:=m';cases b<;>cases b'<;>cases h<;>rfl
theorem zn8{m:zc}{ms:List zc}:zT m∈ms.map zT↔m∈ms:=⟨λh=>by refine zb (fG.mp h) λx h1 h2=>?_;rw[<-zoc h2];exact h1,λh=>gN h⟩
theorem inM{m:zc}{ms:List zc}{c:AV}{R:Bool->AHeap->Prop}(hc:c = .lst (ms.map zT)\/c = .tup (ms.map zT))(q:R (decide (m∈ms)) O):inG (zT m) c R O:=by
 refine zdT hc (zgk m) (λy hy=>?_) (by decide) (λh=>?_) λh=>?_
 .refine zb (fG.mp hy) λx _ e4_2=>?_;subst e4_2;exact zgk x
 .rw[zn8] at h;rw[Hz h] at q;exact q
 .rw[zn8] at h;rw[Hy h] at q;exact q
noncomputable def zrw(r ms:List zc):List zc:=r.filter λy=>!decide (y∈ms)
theorem zj6(G:Gd X (hK P))(hd:n<590){r ms:List zc}(hl:r.length<=1000)(q:Q (if ∀y∈ms,y∈r then zx (zrw r ms) else .none) O) :
  CallOk X 142 ⟨n,false⟩ [zx r,.lst (ms.map zT)] Q Z O:=by
 refine zlC G (gD hd (by decide)) λL=>?_;refine zfa (β:=Unit) (g:=zT) (λxs _ l O'=>O'=O/\(∃x,l=[some (zx r),some (.lst (ms.map zT)),x])/\(∀y∈ms,y∈xs\/y∈r)/\∀y∈xs,y∈ms) (λb _=>b) ?_ (b:=()) ?_ (zr rfl ⟨_,rfl⟩ (λy hy=>.inl hy) (λy hy=>hy))
 .rintro x xs _ l O' K ⟨rfl,⟨v,rfl⟩,h1,h2⟩ hK;refine zd _ rfl ?_;refine inM (.inr rfl) ?_
  by_cases hx:x∈r
  .rw[Hz hx];refine⟨trivial,hK _ _ (zr rfl ⟨_,rfl⟩ (λy hy=>?_) (λy hy=>h2 y (fA _ hy)))⟩
   rcases h1 y hy with h|h
   .rcases fM.mp h with rfl|h
    .exact .inr hx
    .exact .inl h
   .exact .inr h
  .rw[Hy hx];rw[if_neg λh=>hx (h x (h2 x fB))] at q;exact Ends.same q
 .rintro l O' ⟨rfl,⟨v,rfl⟩,h1,_⟩;rw[if_pos λy hy=>(h1 y hy).resolve_left (by intro h;cases h)] at q;refine jH (g:=zT) (λy=>!decide (y∈ms)) zT (λ_=>rfl) (λ_ _=>rfl) (λx _ R q=>?_) (λx _ _ R q=>q) trivial (ziF hl) ?_
  .exact inM (.inl rfl) q
  .exact Ends.same q
end
section
variable{P:Hk}{X:Cx}{n:Nat}{Q:zk}{Z:XP}{O:AHeap}
theorem zdk{O:AHeap}{p:Addr}{o o':AO}:(O.set p o).set p o'=O.set p o':=by
 funext b
 by_cases h:b=p
 .subst h;rw[AHeap.wA,AHeap.wA]
 .rw[AHeap.wB _ _ h,AHeap.wB _ _ h,AHeap.wB _ _ h]
theorem zQ{O:AHeap}{p:Addr}{o:AO}(h:O p=none):∀a o',O a=some o'->O.set p o a=some o':=λa o' e=>by
 rw[AHeap.wB _ _ (by rintro rfl;rw[h] at e;cases e)];exact e
theorem Ends.vE{p:Addr}{xs:List AV}(h:O p=none)(q:Q (.lst xs) O):Ends Q (.ref p) (O.set p (.list xs)):=.one (zQ h) (AHeap.wA ..) h q
noncomputable def qd(r:List zc)(m:Mt):Option (List zc):=match r with
 | []=>none
 | x::t=>if x∈ze m/\∀y∈ze m,y∈x::t then some ((x::t).filter λy=>!decide (y∈ze m)) else none
noncomputable def tk(ms:List Mt)(r:List zc):List (Mt×List zc):=ms.filterMap λm=>(qd r m).map λb=>(m,b)
noncomputable def zqE(x:Mt×List zc):AV:=.tup [z8 x.1,zx x.2]
def zlR(m:Mt):Prop:=m.1.length<=4/\m.2.length<=4
noncomputable def tk1(r:List zc)(b:List (Mt×List zc))(m:Mt):List (Mt×List zc):=b++((qd r m).map λy=>(m,y)).toList
theorem zqG(r:List zc)(ms:List Mt)(b:List (Mt×List zc)):ms.foldl (tk1 r) b=b++tk ms r:=by
 induction ms generalizing b with
 | nil=>exact(gU b).symm
 | cons m ms ih=>
  rw[pM,ih];unfold tk1 tk;rw[fA1];cases qd r m with
  | none=>simp
  | some y=>simp
theorem zap(G:Gd X (hK P))(hd:n<570){x:zc}{t:List zc}{ms:List Mt}(hl:(x::t).length<=1000)(hm:∀m∈ms,zlR m)(hml:ms.length<=100000)(q:Q (.lst ((tk ms (x::t)).map zqE)) O) :
  CallOk X 149 ⟨n,false⟩ [zx (x::t),.lst (ms.map z8)] Q Z O:=by
 refine zhz G (gD hd (by decide)) λL=>?_;intro p hp;refine zH (g:=z8) (λxs b l O'=>O'=O.set p (.list (b.map zqE))/\(∃u v w,l=[some (zx (x::t)),some (.lst (ms.map z8)),some (.ref p),u,v,w])/\b.length+xs.length<=100000/\∀y∈xs,zlR y) (tk1 (x::t)) ?_ (b:=[]) ?_ (zr rfl (jM _ _ _ rfl) (by simpa using hml) hm)
 .intro m xs b l O' K S_ hR1;refine zw hR1 λe0_0 h0_1 h1 h2=>?_;subst e0_0;obtain⟨u,v,w,rfl⟩:=h0_1;intro hK;refine zd _ rfl ?_;have hmo:=h2 m fB;refine kj (G.push L) (zv1 hd) (by have:=hmo.1;exact zv3 this) (by have:=hmo.2;exact zv3 this) ?_;refine inM (.inl rfl) ?_;have hle:(tk1 (x::t) b m).length+xs.length<=100000:=by
   unfold tk1;cases qd (x::t) m<;>simp<;>(first|exact zzG h1|exact zzE h1)
  have hK:=λu v w=>hK _ _ (zr rfl (jM u v w rfl) hle (λy hy=>h2 y (fA _ hy)));have hlo:qd (x::t) m=if x∈ze m/\∀y∈ze m,y∈x::t then some (zrw (x::t) (ze m)) else none:=rfl
  refine zcD (λh=>?_) λh=>?_
  .have h:=H0 h;refine zj6 (G.push L) (zv1 hd) hl ?_
   by_cases hy:∀y∈ze m,y∈x::t
   .rw[if_pos hy];rw[if_pos ⟨h,hy⟩] at hlo;refine zL (AHeap.wA ..) ?_;refine zL (AHeap.wA ..) ?_;refine zV (by rw[fC];exact zzF h1) ?_;refine⟨trivial,?_⟩;rw[zdk];unfold tk1 at hK;rw[hlo,Option.map_some,Option.toList_some,fW] at hK;exact hK _ _ _
   .rw[if_neg hy];rw[if_neg λh=>hy h.2] at hlo;unfold tk1 at hK;rw[hlo,fDT,Option.toList_none,gU] at hK;exact⟨trivial,hK _ _ _⟩
  .have h:=of_decide_eq_false h;rw[if_neg λq=>h q.1] at hlo;unfold tk1 at hK;rw[hlo,fDT,Option.toList_none,gU] at hK;exact⟨trivial,hK _ _ _⟩
 .intro l O' hR2;refine zw hR2 λe1_0 h1_1 _ _=>?_;subst e1_0;obtain⟨u,v,w,rfl⟩:=h1_1;rw[zqG,fA6];exact Ends.vE hp q
end
section
variable{P:Hk}{X:Cx}{n:Nat}{Q:zk}{Z:XP}{O:AHeap}
theorem zgr{J:Type}{f:J->AV}{u:AV->J}(hu:∀x,u (f x)=x){ys:List AV}{xs:List J}(h:ys.Perm (xs.map f)):(ys.map u).Perm xs/\ys=(ys.map u).map f:=by
 have h1:(ys.map u).Perm ((xs.map f).map u):=h.map u;rw[gA] at h1;have h2:xs.map (u∘f)=xs:=by
  have:u∘f=id:=funext hu;rw[this,fCF]
 rw[h2] at h1;refine⟨h1,?_⟩;rw[gA];refine(fCF ys).symm.trans (gG λy hy=>?_);refine zb (fG.mp (h.mem_iff.mp hy)) λx _ e0_2=>?_;subst e0_2;show f x=f (u (f x));rw[hu]
noncomputable def srt{J:Type}(Y:J->Nat)(xs:List J):List J:=xs.mergeSort λa b=>decide (Y a<=Y b)
theorem zU{J:Type}(Y:J->Nat)(xs:List J):(srt Y xs).Perm xs:=List.mergeSort_perm xs _
theorem zgF{J:Type}(Y:J->Nat)(xs:List J):(srt Y xs).Pairwise λa b=>Y a<=Y b:=by
 have h:=List.pairwise_mergeSort (le:=λa b=>decide (Y a<=Y b)) (λa b c h1 h2=>Hz (fE (H0 h1) (H0 h2))) (λa b=>by
  rcases fDO (Y a) (Y b) with h|h
  .rw[Hz h];rfl
  .rw[Hz h,Bool.or_true]) xs
 exact h.imp λh=>H0 h
theorem zij{J:Type}{Y:J->Nat}{xs ys:List J}(hi:∀x∈xs,∀y∈xs,Y x=Y y->x=y)(h1:ys.Perm xs)(h2:ys.Pairwise λa b=>Y a<=Y b):ys=srt Y xs:=
 List.Perm.eq_of_pairwise (λa b ha hb h1' h2'=>hi a (h1.mem_iff.mp ha) b ((zU Y xs).mem_iff.mp hb) (fAH h1' h2')) h2 (zgF Y xs) (h1.trans (zU Y xs).symm)
theorem zh9{J:Type}{f:J->AV}{r:Bool}(u:AV->J)(hu:∀x,u (f x)=x){xs:List J}(Y:J->Nat)(hi:∀x∈xs,∀y∈xs,Y x=Y y->x=y)(hk:zdp (xs.map f))(hlt:∀x∈xs,∀y∈xs,zdq O (f x) (f y) (decide (Y x<Y y)))
  (q:mkL r ((srt Y xs).map f) Q O):zh8 r (xs.map f) Q O:=by
 unfold zh8;refine zt (λv=>Y (u v)) hk (λa ha b hb=>?_) (λys h1 h2=>?_)
 .refine zb (fG.mp ha) λx hx e1_2=>?_;subst e1_2;refine zb (fG.mp hb) λy hy e2_2=>?_;subst e2_2;simp only[hu];exact hlt x hx y hy
 .obtain⟨p1,p2⟩:=zgr hu h1;rw[p2,zij hi p1 (fAD.mpr h2)];exact q
noncomputable abbrev Ent:=Int×Int
noncomputable def zC(e:Ent):AV:=.tup [.int e.1,.int e.2]
noncomputable abbrev Tr:=Int×zc
noncomputable def zit(t:Tr):AV:=.tup [.int t.1,.str t.2.1.toNat,.int t.2.2]
noncomputable def zul(v:AV):Tr:=match v with
 | .tup [.int d,.str s,.int k]=>(d,(Nat.beq s 1,k))
 | _=>(0,(false,0))
theorem zun(t:Tr):zul (zit t)=t:=by
 obtain⟨d,b,k⟩:=t;cases b<;>rfl
noncomputable def zay(t:Tr):Nat:=(t.1.toNat*2+t.2.1.toNat)*1000000+t.2.2.toNat
structure TrOk(t:Tr):Prop where
 day:0<=t.1
 lo:0<=t.2.2
 hi:t.2.2<1000000
theorem zaj{M x y k k':Nat}(h:k<M)(h':k'<M)(e:x*M+k=y*M+k'):x=y/\k=k':=by
 have e1:x=y:=by
  rcases fDD x y with hl|hl|hl
  .exact absurd e (gS (gP (fBE h _) (fE (fB1 x M▸pI M hl) (pR ..))))
  .exact hl
  .exact absurd e (fBI (gP (fBE h' _) (fE (fB1 y M▸pI M hl) (pR ..))))
 subst e1;exact⟨rfl,Nat.add_left_cancel e⟩
theorem zaT{M x y k k':Nat}(h:k<M)(h':k'<M):x*M+k<y*M+k'↔x<y\/x=y/\k<k':=by
 constructor
 .intro e
  rcases fDD x y with hl|hl|hl
  .exact .inl hl
  .subst hl;exact .inr ⟨rfl,Nat.lt_of_add_lt_add_left e⟩
  .exact absurd e (Nat.not_lt_of_ge (fAB (gP (fBE h' _) (fE (fB1 y M▸pI M hl) (pR ..)))))
 .rintro(hl|⟨rfl,hl⟩)
  .exact gP (fBE h _) (fE (fB1 x M▸pI M hl) (pR ..))
  .exact fBE hl _
theorem j7{k:Int}(h:k<1000000):k.toNat<1000000:=y33 h
theorem kX{a b:Int}(ha:0<=a)(hb:0<=b)(e:a.toNat=b.toNat):a=b:=by rw[<-fAQ ha,e,fAQ hb]
theorem toNat_lt{a b:Int}(ha:0<=a)(hb:0<=b):a.toNat<b.toNat↔a<b:=by rw[Int.lt_toNat,fAQ ha]
theorem zh5{t u:Tr}(ht:TrOk t)(hu:TrOk u)(h:zay t=zay u):t=u:=by
 obtain⟨d,b,k⟩:=t;obtain⟨d',b',k'⟩:=u;obtain⟨h1,h2⟩:=zaj (j7 ht.hi) (j7 hu.hi) h;obtain⟨h3,h4⟩:=zaj (pD (fBD b)) (pD (fBD b')) h1;have e1:d=d':=kX ht.day hu.day h3;have e2:k=k':=kX ht.lo hu.lo h2;subst e1 e2;cases b<;>cases b'<;>first|rfl|cases h4
theorem znb(a c:Int)(b:Str):(PyData.tuple [.int a,.str b,.int c]).depth<=100:=by simp only[PyData.depth,PyData.depthAll];decide
theorem zkQ:∀c:Bool,PyData.eqv (.str (zu c.toNat)) (.str (zu (!c).toNat))=false:=by decide +kernel
theorem zh7:∀c:Bool,ltD (.str (zu c.toNat)) (.str (zu (!c).toNat))=some (!c):=by
 intro c;cases c<;>decide +kernel
theorem zfY{p q:Prop}[Decidable p][Decidable q](h:p↔q):some (decide p)=some (decide q):=congrArg some (decide_eq_decide.mpr h)
theorem zuk{t u:Tr}(ht:TrOk t)(hu:TrOk u):zdq O (zit t) (zit u) (decide (zay t<zay u)):=by
 obtain⟨d,b,k⟩:=t;obtain⟨d',b',k'⟩:=u;refine ja _ _ (.tup (.cons (.int _) (.cons (.str _) (.cons (.int _) .nil)))) (.tup (.cons (.int _) (.cons (.str _) (.cons (.int _) .nil)))) (znb ..) (znb ..) ?_;have hd:=toNat_lt ht.day hu.day;have hk:=toNat_lt ht.lo hu.lo;have key:zay (d,b,k)<zay (d',b',k')↔d<d'\/d=d'/\(b.toNat<b'.toNat\/b.toNat=b'.toNat/\k<k'):=by
  unfold zay;dsimp only at hd hk ⊢;rw[zaT (j7 ht.hi) (j7 hu.hi),zaT (pD (fBD b)) (pD (fBD b')),hd,hk];constructor
  .rintro((h|⟨h1,h2⟩)|⟨h1,h2⟩)
   .exact .inl h
   .exact .inr ⟨kX ht.day hu.day h1,.inl h2⟩
   .obtain⟨h3,h4⟩:=zaj (pD (fBD b)) (pD (fBD b')) h1;exact .inr ⟨kX ht.day hu.day h3,.inr ⟨h4,h2⟩⟩
  .rintro(h|⟨rfl,h|⟨h1,h2⟩⟩)
   .exact .inl (.inl h)
   .exact .inl (.inr ⟨rfl,h⟩)
   .exact .inr ⟨by rw[h1],h2⟩
 rw[zd5,qH]
 by_cases e:d=d'
 .subst e;rw[if_pos (by simp only[PyData.eqv,BEq.rfl]),qH];have key:zay (d,b,k)<zay (d,b',k')↔(b.toNat<b'.toNat\/b.toNat=b'.toNat/\k<k'):=key.trans ⟨λh=>(h.resolve_left (Int.lt_irrefl d)).2,λh=>.inr ⟨rfl,h⟩⟩;have same:∀c:Bool,(if PyData.eqv (.str (zu c.toNat)) (.str (zu c.toNat)) then zbz [.int k] [.int k'] else ltD (.str (zu c.toNat)) (.str (zu c.toNat)))=some (decide (k<k')):=λc=>by
   rw[if_pos (by simp only[PyData.eqv,BEq.rfl]),qH]
   by_cases ek:k=k'
   .subst ek;rw[if_pos (by simp only[PyData.eqv,BEq.rfl]),zgf,Hy (Int.lt_irrefl k)]
   .rw[if_neg (by simpa only[PyData.eqv,beq_iff_eq] using ek),zcO]
  cases b<;>cases b'
  .exact(same false).trans (zfY (key.trans ⟨λh=>(h.resolve_left (fBN 0)).2,λh=>.inr ⟨rfl,h⟩⟩).symm)
  .refine Eq.trans ?_ (congrArg some (Hz (key.mpr (.inl Nat.zero_lt_one))).symm);exact(if_neg (ne_true_of_eq_false (zkQ false))).trans (zh7 false)
  .refine Eq.trans ?_ (congrArg some (Hy λh=>(key.mp h).elim (fBM _) λh=>nomatch h.1).symm);exact(if_neg (ne_true_of_eq_false (zkQ true))).trans (zh7 true)
  .exact(same true).trans (zfY (key.trans ⟨λh=>(h.resolve_left (fBN 1)).2,λh=>.inr ⟨rfl,h⟩⟩).symm)
 .rw[if_neg (by simpa only[PyData.eqv,beq_iff_eq] using e),zcO];exact zfY (key.trans ⟨λh=>h.resolve_right λh=>e h.1,.inl⟩).symm
noncomputable def km(s:Bool)(es:List Ent):List Tr:=(List.range es.length).map λi=>((es.getD i (0,0)).1,(s,(i:Int)))
noncomputable def zbh(es fs:List Ent):List Tr:=km false es++km true fs
noncomputable def inO(es fs:List Ent):List Tr:=srt zay (zbh es fs)
structure EsOk(es:List Ent):Prop where
 day:∀e∈es,0<=e.1/\e.1<=9999
 cents:∀e∈es,e.2.natAbs<=1000000000
 len:es.length<=1000
theorem getD_mem{J:Type}{l:List J}{k:Nat}{d:J}(h:k<l.length):l.getD k d∈l:=by
 rw[fQ,fJ h];exact fAK h
theorem ji{J:Type}{l:List J}{k:Nat}{d:J}(h:k<l.length):l[k]? = some (l.getD k d):=by
 rw[fQ,fJ h];rfl
theorem qE{es fs:List Ent}(he:EsOk es)(hf:EsOk fs){t:Tr}(h:t∈zbh es fs):TrOk t/\∃k:Nat,t.2.2=k/\k<(if t.2.1 then fs else es).length/\((if t.2.1 then fs else es).getD k (0,0)).1=t.1:=by
 rcases fS.mp h with h|h<;>obtain⟨i,hi,rfl⟩:=fG.mp h<;>have hi:=gV.mp hi
 .have:=he.len;exact zf5 ⟨(he.day _ (getD_mem hi)).1,pA i,by show (i:Int)<1000000;exact zwn hi this⟩ i rfl hi rfl
 .have:=hf.len;exact zf5 ⟨(hf.day _ (getD_mem hi)).1,pA i,by show (i:Int)<1000000;exact zwn hi this⟩ i rfl hi rfl
theorem zmM(es fs:List Ent):(zbh es fs).length=es.length+fs.length:=by unfold zbh km;simp
theorem inO_mem{es fs:List Ent}{t:Tr}:t∈inO es fs↔t∈zbh es fs:=(zU ..).mem_iff
theorem za7(es fs:List Ent):(inO es fs).length=es.length+fs.length:=by rw[<-zmM];exact(zU ..).length_eq
theorem zhl(G:Gd X (hK P))(hd:n<590){pb pk:Addr}{es fs:List Ent}(hb:O pb=some (.list (es.map zC)))(hk:O pk=some (.list (fs.map zC)))(he:EsOk es)(hf:EsOk fs)(q:Q (.lst ((inO es fs).map λt=>zT t.2)) O) :
  CallOk X 47 ⟨n,false⟩ [.ref pb,.ref pk] Q Z O:=by
 refine zjk G (gD hd (by decide)) λL=>?_;have l1:=he.len;have l2:=hf.len;refine zi (zA hb) ?_;rw[fC];refine zel (ziF l1) ?_;refine js (λi=>zit ((es.getD i (0,0)).1,(false,(i:Int)))) (λ_=>rfl) (λ_ _=>rfl) (λi hi R q=>?_) trivial (by rw[gY];exact ziF l1) ?_
 .refine jj hb (zi (jA (ji (d:=(0,0)) (gV.mp hi))) ?_);exact q
 refine zi (zA hk) ?_;rw[fC];refine zel (ziF l2) ?_;refine js (λi=>zit ((fs.getD i (0,0)).1,(true,(i:Int)))) (λ_=>rfl) (λ_ _=>rfl) (λi hi R q=>?_) trivial (by rw[gY];exact ziF l2) ?_
 .refine jj hk (zi (jA (ji (d:=(0,0)) (gV.mp hi))) ?_);exact q
 refine zV (by rw[fC,fC,gY,gY];exact zww l1 l2) ?_;have e:((List.range es.length).map λi=>zit ((es.getD i (0,0)).1,(false,(i:Int))))++((List.range fs.length).map λi=>zit ((fs.getD i (0,0)).1,(true,(i:Int))))=(zbh es fs).map zit:=by
  unfold zbh km;rw[fW,gA,gA];rfl
 rw[e];refine zh9 zul zun zay (λx hx y hy=>zh5 (qE he hf hx).1 (qE he hf hy).1) (.inl λx hx=>?_) (λx hx y hy=>zuk (qE he hf hx).1 (qE he hf hy).1) ?_
 .refine zb (fG.mp hx) λt _ e13_2=>?_;subst e13_2;exact jL _ _ rfl
 refine js (λt=>zT t.2) (λ_=>rfl) (λ_ _=>rfl) (λt ht R q=>q) trivial (by have:=za7 es fs;unfold inO at this;exact zBK l1 l2 this) ?_;exact Ends.same q
end
section
variable{P:Hk}{X:Cx}{n:Nat}{Q:zk}{Z:XP}{O:AHeap}
inductive Hold(O:AHeap):List Addr->List (List AV)->Prop
 | nil:Hold O [] []
 | cons {r:Addr} {rs:List Addr} {g:List AV} {gs:List (List AV)}:O r=some (.list g)->Hold O rs gs->Hold O (r::rs) (g::gs)
theorem Hold.set{p:Addr}{o:AO}{rs gs}(h:Hold O rs gs)(hp:p∉rs):Hold (O.set p o) rs gs:=by
 induction h with
 | nil=>exact .nil
 | cons h r ih=>exact .cons (by rw[AHeap.wB _ _ (λe=>hp (by rw[e];exact fB))];exact h) (ih λq=>hp (fA _ q))
theorem Hold.snoc{p:Addr}{g:List AV}(hp:O p=some (.list g)){rs gs}(h:Hold O rs gs):Hold O (rs++[p]) (gs++[g]):=by
 induction h with
 | nil=>exact .cons hp .nil
 | cons h r ih=>exact .cons h ih
theorem Hold.unsnoc{gs:List (List AV)}{g:List AV}{rs:List Addr}(h:Hold O rs (gs++[g])):∃rs' r,rs=rs'++[r]/\Hold O rs' gs/\O r=some (.list g):=by
 induction gs generalizing rs with
 | nil=>cases h with|cons h r=>cases r;exact⟨[],_,rfl,.nil,h⟩
 | cons g' gs ih=>
  cases h with
  | cons h r=>
   refine zl (ih r) λrs' q e h1 h2=>?_;exact zI (_::rs') q (by rw[e];rfl) (.cons h h1) h2
theorem Hold.at_{rs:List Addr}{gs:List (List AV)}(h:Hold O rs gs){a:Addr}{g:List AV}(e:(rs.zip gs).lookup a=some g):a∈rs/\O a=some (.list g):=by
 induction h with
 | nil=>cases e
 | @cons r rs g' gs h hr ih=>
  rw[fC3,pN] at e;split at e
  .rename_i e';obtain rfl:=Hx e;rw[H1 e'];exact⟨fB,h⟩
  .exact⟨fA _ (ih e).1,(ih e).2⟩
theorem znp{V:Addr->Option (List AV)}(l:List AV):FzL V l l:=by
 induction l with
 | nil=>exact .nil
 | cons x l ih=>exact .cons (.same x) ih
theorem Ends.lists{O':AHeap}{p:Addr}{rs:List Addr}{gs:List (List AV)}(hs:∀a o,O a=some o->O' a=some o)(hp:O' p=some (.list (rs.map .ref)))(h:Hold O' rs gs)(nd:(p::rs).Nodup)(hn:∀a∈p::rs,O a=none)(q:Q (.lst (gs.map .lst)) O):Ends Q (.ref p) O':=by
 have nd':=fT.mp nd;unfold Ends;refine qU (λa=>if a=p then some (gs.map .lst) else (rs.zip gs).lookup a) O _ ⟨λa ys e=>?_,hs⟩ (.lst (if_pos rfl)) q;split at e
 .rename_i e';subst e';cases e
  refine kt (hn _ fB) _ hp ?_;have gen:∀(V:Addr->Option (List AV)) (rs:List Addr) (gs:List (List AV)),rs.length=gs.length->(∀r g,(r,g)∈rs.zip gs->V r=some g)->FzL V (rs.map .ref) (gs.map .lst):=λV rs=>by
   induction rs with
   | nil=>intro gs hl _;cases gs with
    | nil=>exact .nil
    | cons _ _=>cases hl
   | cons r rs ih=>intro gs hl hφ;cases gs with
    | nil=>cases hl
    | cons g gs=>exact .cons (.lst (hφ r g fB)) (ih gs (Nat.succ.inj hl) λr g h=>hφ r g (fA _ h))
  have hl:rs.length=gs.length:=by clear hp nd nd' hn q;induction h with
   | nil=>rfl
   | cons _ _ ih=>rw[fH,fH,ih]
  refine gen _ rs gs hl λr g hrg=>?_;have hr:r∈rs:=(fB9 hrg).1;rw[if_neg (λe:r=a=>nd'.1 (e▸hr))];clear hp hn nd h q hr;have nd:=nd'.2;clear nd'
  induction rs generalizing gs with
  | nil=>cases hrg
  | cons r' rs ih=>
   cases gs with
   | nil=>cases hl
   | cons g' gs=>
    have nd:=fT.mp nd;rw[fC3,pN]
    rcases fM.mp hrg with e|hrg
    .cases e;rw[BEq.rfl]
    .have hne:(r==r')=false:=beq_eq_false_iff_ne.mpr λe=>nd.1 (e▸(fB9 hrg).1);rw[hne];exact ih (Nat.succ.inj hl) hrg nd.2
 .obtain⟨h1,h2⟩:=h.at_ e;exact kt (hn _ (fA _ h1)) _ h2 (znp _)
theorem zfN(xs:List AV)(x:AV):j8 (xs++[x]) (-1)=some x:=by
 unfold j8;rw[if_neg (by decide),fF,fY,if_pos zzl];have:(-1+((xs.length+1:Nat):Int)).toNat=xs.length:=zzo;rw[this,gI (fO _),fC0];rfl
noncomputable def zbo(span:Int)(l:Option Int)(d:Int):Bool:=match l with
 | none=>true
 | some l=>decide (d>l+span)
noncomputable def zR(gs:List (List zc))(m:zc):List (List zc):=match gs.getLast? with
 | none=>gs
 | some g=>gs.dropLast++[g++[m]]
theorem jG(gs:List (List zc))(g:List zc)(m:zc):zR (gs++[g]) m=gs++[g++[m]]:=by unfold zR;simp
noncomputable def jQ(span:Int)(b:List (List zc)×Option Int)(t:Tr):List (List zc)×Option Int:=(zR (if zbo span b.2 t.1 then b.1++[[]] else b.1) t.2,some t.1)
noncomputable def grps(es fs:List Ent)(span:Int):List (List zc):=((inO es fs).foldl (jQ span) ([],none)).1
noncomputable def znP(l:Option Int):AV:=match l with
 | none=>.none
 | some i=>.int i
noncomputable def gAV(g:List zc):AV:=.lst (g.map zT)
structure GrpAt(f:zc->AV)(O O':AHeap)(p:Addr)(gs:List (List zc)):Prop where
 ex:∃rs:List Addr,O' p=some (.list (rs.map .ref))/\Hold O' rs (gs.map λg=>g.map f)/\(p::rs).Nodup/\∀a∈p::rs,O a=none
 sub:∀a o,O a=some o->O' a=some o
theorem zhj{rs:List Addr}{gs:List (List AV)}(h:Hold O rs gs):rs.length=gs.length:=by
 induction h with
 | nil=>rfl
 | cons _ _ ih=>rw[fH,fH,ih]
theorem Hold.some{rs:List Addr}{gs:List (List AV)}(h:Hold O rs gs){r:Addr}(hr:r∈rs):O r≠none:=by
 induction h with
 | nil=>cases hr
 | cons h' _ ih=>
  rcases fM.mp hr with rfl|hr
  .rw[h'];exact λe=>nomatch e
  .exact ih hr
theorem GrpAt.vJ{f:zc->AV}{O':AHeap}{p r:Addr}{rs:List Addr}{gs:List (List zc)}(h1:O' p=some (.list (rs.map .ref)))(h2:Hold O' rs (gs.map λg=>g.map f))(h3:(p::rs).Nodup)(h4:∀a∈p::rs,O a=none)(hs:∀a o,O a=some o->O' a=some o)(hr:O' r=none) :
  GrpAt f O ((O'.set r (.list [])).set p (.list (rs.map .ref++[.ref r]))) p (gs++[[]]):=by
 have hrp:r≠p:=by rintro rfl;rw[h1] at hr;exact absurd hr (fN _)
 have hrs:r∉rs:=λh=>h2.some h hr;have hrσ:O r=none:=by
  cases e:O r with
  | none=>rfl
  | some o=>rw[hs r o e] at hr;exact absurd hr (fN _)
 have nd:=fT.mp h3;refine⟨(jU (rs++[r]) ?_ ?_ ?_ ?_),λa o e=>?_⟩
 .rw[AHeap.wA,fW];rfl
 .rw[fW];exact Hold.snoc (by rw[AHeap.wB _ _ hrp];exact AHeap.wA ..) ((h2.set hrs).set nd.1)
 .refine fT.mpr ⟨λh=>?_,gT.mpr (zp nd.2 (fT.mpr ⟨gQ,.nil⟩) (λa ha b hb e=>?_))⟩
  .rcases fS.mp h with h|h
   .exact nd.1 h
   .exact hrp (fP.mp h).symm
  .rw[fP.mp hb] at e;exact hrs (e▸ha)
 .intro a ha
  rcases fM.mp ha with rfl|ha
  .exact h4 _ fB
  .rcases fS.mp ha with ha|ha
   .exact h4 _ (fA _ ha)
   .rw[fP.mp ha];exact hrσ
 .rw[AHeap.wB _ _ (by rintro rfl;rw[h4 _ fB] at e;cases e),AHeap.wB _ _ (by rintro rfl;rw[hrσ] at e;cases e)];exact hs a o e
theorem GrpAt.last{f:zc->AV}{O':AHeap}{p:Addr}{gs:List (List zc)}(h:GrpAt f O O' p gs)(hne:gs≠[]):∃xs r g,O' p=some (.list (xs++[.ref r]))/\O' r=some (.list (g.map f))/\g∈gs/\∀m,GrpAt f O (O'.set r (.list (g.map f++[f m]))) p (zR gs m):=by
 obtain⟨⟨rs,h1,h2,h3,h4⟩,hs⟩:=h;obtain⟨g0,g,rfl⟩:∃g0 g,gs=g0++[g]:=(jL _ _ ((fAZ hne).symm))
 rw[fW] at h2;refine zl h2.unsnoc λrs' r e2_2 hr1 hr2=>?_;subst e2_2;have nd:=fT.mp h3;have hpr:r≠p:=λe=>nd.1 (by rw[e];simp);have hrr:r∉rs':=λh=>(gT.mp nd.2).2.2 r h r fB rfl;rw[fW] at h1;refine j3 (rs'.map .ref) r g h1 hr2 (gL _ fB) (λm=>?_);rw[jG];refine⟨(jU (rs'++[r]) ?_ ?_ h3 h4),λa o e=>?_⟩
 .rw[AHeap.wB _ _ (Ne.symm hpr),fW];exact h1
 .have e:(g0++[g++[m]]).map (λg=>g.map f)=g0.map (λg=>g.map f)++[(g++[m]).map f]:=fW ..;rw[e];exact(hr1.set hrr).snoc (by rw[AHeap.wA,fW];rfl)
 .rw[AHeap.wB _ _ (by rintro rfl;rw[h4 a (by simp)] at e;cases e)];exact hs a o e
theorem zqw{J:Type}{l:List J}(h:l≠[]):∃a b,l=a++[b]:=jL _ _ (fAZ h).symm
theorem zgM{gs:List (List zc)}(h:gs≠[]){m:zc}{k:Nat}(h1:gs.length<=k)(h2:∀g∈gs,g.length<k):zR gs m≠[]/\(zR gs m).length<=k/\∀g∈zR gs m,g.length<=k:=by
 refine zY (zqw h) λg0 g e=>?_;subst e;rw[jG];refine⟨fCC _ (λe=>nomatch e),by rw[fF] at h1 ⊢;exact h1,λz hz=>(fS.mp hz).elim (λh=>fAB (h2 z (pH _ h))) λh=>?_⟩;rw[fP.mp h,fF];exact h2 g (gL _ fB)
theorem zhT{gs:List (List zc)}{k:Nat}(h1:gs.length<=k)(h2:∀g∈gs,g.length<=k):gs++[[]]≠[]/\(gs++[[]]).length<=k+1/\∀g∈gs++[[]],g.length<k+1:=
 ⟨fCC _ (λe=>nomatch e),by rw[fF];exact gW h1,λz hz=>(fS.mp hz).elim (λh=>pD (h2 z h)) λh=>by rw[fP.mp h];exact fCH k⟩
noncomputable def gsL(pb pk:Addr)(span:Int)(p:Addr)(a:AV)(u v:Option AV):Loc:=[some (.ref pb),some (.ref pk),some (.int span),some (.ref p),some a,u,v]
structure GsI(O:AHeap)(es fs:List Ent)(span:Int)(pb pk p:Addr)(xs:List Tr)(b:List (List zc)×Option Int)(l:Loc)(O':AHeap):Prop where
 gr:GrpAt zT O O' p b.1
 ne:b.2=none\/b.1≠[]
 hl:∃u v,l=gsL pb pk span p (znP b.2) u v
 few:∃j,j+xs.length<=100000/\b.1.length<=j/\∀g∈b.1,g.length<=j
 hx:∀t∈xs,t∈zbh es fs
section
variable{es fs:List Ent}{span:Int}{pb pk p:Addr}{t:Tr}{xs:List Tr}{I:AHeap->Prop}{K:Loc->AHeap->Prop}{S:zN}
theorem zkr{d:Dp}{gs:List (List zc)}{a:AV}{j:Nat}{O':AHeap}(hI:∀O,I O)(h:GrpAt zT O O' p gs)(hne:gs≠[])(hj:j+xs.length<=100000)(h1:gs.length<=j)(h2:∀g∈gs,g.length<j)(hx:∀t∈xs,t∈zbh es fs)(hK:∀l' O',GsI O es fs span pb pk p xs (zR gs t.2,some t.1) l' O'->K l' O') :
  (Gb (Gw (G0 jJ (Gg (Ga 3) (G4 (Gc (.int 1)))) [(Ga 5)])) (Gb (Gf 4 (Ga 6)) Ge)) d (gsL pb pk span p a (some (zT t.2)) (some (.int t.1))) (Gy I K S) Gz O':=by
 refine za6 (h.last hne) λys r g k1 k2 k3 k4=>?_;have hf:=zgM hne h1 h2 (m:=t.2);have hg:=h2 g k3;refine jj k1 (zi (zfN _ _) (zL k2 (zL k2 (zV (by rw[fC];exact fE hg (fE (pR _ _) (fE hj (by decide)))) ?_))));exact⟨hI _,hK _ _ ⟨k4 t.2,.inr hf.1,jL _ _ rfl,zt j hj hf.2.1 hf.2.2,hx⟩⟩
theorem zpB{d:Nat}(G:Gd X (hK P))(hd:d<581)(hb:O pb=some (.list (es.map zC)))(hk:O pk=some (.list (fs.map zC)))(he:EsOk es)(hf:EsOk fs){b:List (List zc)×Option Int}{l:Loc}{O':AHeap}(hI:∀O,I O)(h:GsI O es fs span pb pk p (t::xs) b l O')(hK:∀l' O',GsI O es fs span pb pk p xs (jQ span b t) l' O'->K l' O') :
  ∃l',jP (.one 5) (zT t.2) l=some l'/\zcQ X ⟨d,false⟩ l' (Gy I K S) Gz O':=by
 refine zY h.hl λu v el=>zj h.few λj hj h1 h2=>?_;subst el;have hx:=fR.mp h.hx;have hs:=h.gr.sub;rw[fH] at hj;refine zpl (qE he hf hx.1) λ_ k hk1 hk2 hk3=>?_;refine zd _ rfl ?_;refine zcH G (gD hd (by decide)) (hs _ _ hb) (hs _ _ hk) (m:=t.2) (k:=k) (e:=.tup [.int t.1,.int ((if t.2.1 then fs else es).getD k (0,0)).2]) ?_ hk1 ?_
 .rw[<-hk3];cases hbb:t.2.1<;>rw[hbb] at hk2<;>simp only[gC,if_false,if_true] at hk2 ⊢<;>rw[fA8,ji (d:=(0,0)) hk2]<;>rfl
 have hj1:j+1+xs.length<=100000:=by rw[fAU,Nat.add_comm 1];exact hj
 have hn:=zhT h1 h2;have opn:zbo span b.2 t.1=true->zbD O' p λ_=>∀r,O' r=none->zbD (O'.set r (.list [])) p λys=>zcz (ys.length+1) ((Gb (Gw (G0 jJ (Gg (Ga 3) (G4 (Gc (.int 1)))) [(Ga 5)])) (Gb (Gf 4 (Ga 6)) Ge)) ⟨d,false⟩ (gsL pb pk span p (znP b.2) (some (zT t.2)) (some (.int t.1))) (Gy I K S) Gz ((O'.set r (.list [])).set p (.list (ys++[.ref r])))):=λho=>by
  refine zy h.gr.ex λrs g1 g2 g3 g4=>?_;refine zL g1 λr hr=>?_;have hrp:p≠r:=λe=>by rw[<-e,g1] at hr;exact absurd hr (fN _)
  refine zL ((AHeap.wB _ _ hrp).trans g1) (zV (by rw[fC,zhj g2,fC];exact fE (gW h1) (fE (pR _ _) (fE hj1 (by decide)))) ?_);refine zkr hI (GrpAt.vJ g1 g2 g3 g4 hs hr) hn.1 hj1 hn.2.1 hn.2.2 hx.2 ?_;unfold jQ at hK;rw[ho] at hK;exact hK
 cases hla:b.2 with
 | none=>
  rw[hla] at opn;exact opn rfl
 | some la=>
  rw[hla] at opn;refine zcD (λho=>opn ho) λho=>?_;refine zkr hI h.gr (h.ne.resolve_left λe=>by rw[hla] at e;cases e) hj1 (fBU h1) (λg hg=>pD (h2 g hg)) hx.2 ?_;have ho:zbo span b.2 t.1=false:=by rw[hla];exact ho
  unfold jQ at hK;rw[ho] at hK;exact hK
end
theorem zhg(G:Gd X (hK P))(hd:n<580){pb pk:Addr}{es fs:List Ent}{span:Int}(hb:O pb=some (.list (es.map zC)))(hk:O pk=some (.list (fs.map zC)))(he:EsOk es)(hf:EsOk fs)(q:∀O' p,GrpAt zT O O' p (grps es fs span)->Ends Q (.ref p) O') :
  CallOk X 54 ⟨n,false⟩ [.ref pb,.ref pk,.int span] Q Z O:=by
 refine znL G (gD hd (by decide)) λL=>?_;intro p hp;refine zhl (G.push L) (ziE hd) (zQ hp _ _ hb) (zQ hp _ _ hk) he hf ?_;refine zH (g:=λt:Tr=>zT t.2) (GsI O es fs span pb pk p) (jQ span) (λt xs b l O' K S_ h hK=>zpB (G.push L) (fA3 hd) hb hk he hf (λ_=>trivial) h hK) (b:=([],none)) (λl O' h=>?_)
  ⟨⟨jU [] (AHeap.wA ..) .nil (fT.mpr ⟨gQ,.nil⟩) (λa ha=>by rw[fP.mp ha];exact hp),zQ hp⟩,.inl rfl,jL _ _ rfl,zt 0 (by have:=za7 es fs;have:=he.len;have:=hf.len;rw[fAO];exact zBs (by assumption) (by assumption) this) (fO 0) (λg hg=>nomatch hg),λt ht=>inO_mem.mp ht⟩
 refine zY h.hl λu v el=>?_;subst el;exact q O' p h.gr
theorem zlq(G:Gd X (hK P))(hd:n<580){pb pk:Addr}{es fs:List Ent}{span:Int}(hb:O pb=some (.list (es.map zC)))(hk:O pk=some (.list (fs.map zC)))(he:EsOk es)(hf:EsOk fs)(q:Q (.lst ((grps es fs span).map gAV)) O) :
  CallOk X 54 ⟨n,false⟩ [.ref pb,.ref pk,.int span] Q Z O:=by
 refine zhg G hd hb hk he hf λO' p hG=>?_;obtain⟨⟨rs,h1,h2,h3,h4⟩,hs⟩:=hG;refine Ends.lists hs h1 h2 h3 h4 ?_;rw[gA];exact q
end
section
variable{P:Hk}{X:Cx}{n:Nat}{Q:zk}{Z:XP}{O:AHeap}
noncomputable def zaz(r:List Int):AV:=.tup (r.map .int)
theorem zfx(r:List Int):Flat 1 (zaz r):=.tup λx hx=>by refine zb (fG.mp hx) λi _ e0_2=>?_;subst e0_2;exact .int i
theorem zkk{xs:List AV}{k:Nat}{R:Bool->AHeap->Prop}(hf:∀x∈xs,Flat k x)(hk:k<100)(q:R xs.isEmpty O):eqG (.tup xs) (.tup []) R O:=by
 refine zdI (k:=k+1) (j:=1) (.tup hf) (.tup λx hx=>nomatch hx) hk (λh=>?_) λh=>?_
 .cases h;exact q
 .cases xs with
  | nil=>exact absurd rfl h
  | cons _ _=>exact q
noncomputable def zai(r:List Int)(p:Int):Bool:=match r.getLast? with
 | none=>true
 | some q=>decide (p>q)
noncomputable def zbu(ps:List Int)(r:List Int):List (List Int):=(ps.filter (zai r)).map λp=>r++[p]
noncomputable def qx(ps:List Int)(k:Nat):List (List Int):=match k with
 | 0=>[[]]
 | k+1=>(qx ps k).flatMap (zbu ps)
theorem zdL(ps r:List Int):(zbu ps r).length<=ps.length:=by unfold zbu;rw[fC];exact fAG _ _
theorem zhb{J:Type}{f:J->List (List Int)}{c:Nat}(h:∀a,(f a).length<=c)(l:List J):(l.flatMap f).length<=l.length*c:=by
 induction l with
 | nil=>exact fV _
 | cons a l ih=>rw[fAP,fF,fH,fB1];have:=h a;exact zCW ih this
theorem zlo{ps:List Int}(rs:List (List Int))(acc:List (List Int)):rs.foldl (λb r=>b++zbu ps r) acc=acc++rs.flatMap (zbu ps):=by
 induction rs generalizing acc with
 | nil=>exact(gU _).symm
 | cons r rs ih=>rw[pM,ih,fAP,gH]
theorem zlp{ps:List Int}(k:Nat):(List.range k).foldl (λb _=>b.flatMap (zbu ps)) [[]]=qx ps k:=by
 induction k with
 | zero=>rfl
 | succ k ih=>rw[fCW,fDE,ih];rfl
theorem zes(G:Gd X (hK P))(hd:n<590){ps:List Int}{m:Nat}(hl:ps.length<=8)(hm:m<=3)(q:Q (.lst ((qx ps m).map zaz)) O):CallOk X 125 ⟨n,false⟩ [.lst (ps.map .int),.int m] Q Z O:=by
 refine zlB G (gD hd (by decide)) λL=>?_;refine zel (zsQ hm) ?_;refine zH (g:=λi:Nat=>AV.int i) (λxs b l O'=>O=O'/\(∃u v w,l=[some (.lst (ps.map .int)),some (.int m),some (.lst (b.map zaz)),u,v,w])/\b.length*8 ^ xs.length<=512/\∀r∈b,r.length+xs.length<=3) (λb _=>b.flatMap (zbu ps)) ?_ (b:=[[]]) ?_ (zr rfl (jM _ _ _ rfl) ?_ (λr hr=>by rw[fP.mp hr,gY,pQ];exact zy8 hm))
 .intro i xs b l O' K S_ hR1;refine zw hR1 λe0_0 h0_1 hb hr3=>?_;subst e0_0;obtain⟨u,v,w,rfl⟩:=h0_1;intro hK;rw[fH,Nat.pow_succ] at hb;rw[fH] at hr3;have hx:1<=8 ^ xs.length:=Nat.pow_pos (by decide);have hb1:8*b.length<=512:=fDP b.length 8▸fE (Nat.mul_le_mul_left _ (by lia)) hb;have hb2:(b.flatMap (zbu ps)).length*8 ^ xs.length<=512:=by
   refine fE (pI _ (zhb (c:=8) (λa=>fE (zdL ps a) hl) b)) ?_;rw[Nat.mul_assoc,fDP 8];exact hb
  refine zd _ rfl ?_;refine zH (g:=zaz) (λys acc l O'=>O=O'/\(∃w,l=[some (.lst (ps.map .int)),some (.int m),some (.lst (b.map zaz)),some (.int i),some (.lst (acc.map zaz)),w])/\acc.length+8*ys.length<=512/\∀r∈ys,r.length<=3) (λacc r=>acc++zbu ps r) ?_ (b:=[]) ?_ (zr rfl ⟨_,rfl⟩ (by rw[pQ];exact zEV hb1) (λr hr=>by have:=hr3 r hr;exact zzJ this))
  .intro r ys acc l O' K' S_ hR2;refine zw hR2 λe1_0 h1_1 ha hy3=>?_;subst e1_0;obtain⟨w,rfl⟩:=h1_1;intro hK';rw[fH] at ha;have hel:=zdL ps r;refine zd _ rfl ?_;refine jH (g:=AV.int) (zai r) (λp=>zaz (r++[p])) (λ_=>rfl) (λ_ _=>rfl) (λp hp R q=>?_) (λp hp _ R q=>?_) trivial (zsR hl) ?_
   .refine zkk (k:=0) (λx hx=>by refine zb (fG.mp hx) λi _ e1_2=>?_;subst e1_2;exact .int i) (by decide) ?_;unfold zai at q
    rcases fCL r with rfl|⟨r',x,rfl⟩
    .exact q
    .rw[fCM] at q ⊢;rw[List.getLast?_append,List.getLast?_singleton] at q;have e:(List.map AV.int (r'++[x])).isEmpty=false:=by rw[fW];cases r'.map AV.int<;>rfl
     rw[e]
     conv=>whnf
     rw[fW];exact zi (zfN _ _) q
   .have:=hy3 r fB;refine zV (by rw[fC,fY];exact zy9 this) ?_;unfold zaz at q;rw[fW] at q;exact q
   .refine zV (by rw[fC,fC];unfold zbu at hel;rw[fC] at hel;exact zE2 hl ha hel) ?_;have e:acc.map zaz++(ps.filter (zai r)).map (λp=>zaz (r++[p]))=(acc++zbu ps r).map zaz:=by unfold zbu;rw[fW,gA];rfl
    rw[e];exact⟨trivial,hK' _ _ (zr rfl ⟨_,rfl⟩ (by rw[fF];exact zE4 hl ha hel) (λr hr=>hy3 r (fA _ hr)))⟩
  .intro l O' hR3;refine zw hR3 λe2_0 h2_1 _ _=>?_;subst e2_0;obtain⟨w,rfl⟩:=h2_1;rw[zlo,fA6];refine⟨trivial,hK _ _ (zr rfl (jM _ _ _ rfl) hb2 (λr hr=>?_))⟩;refine zb (pZ.mp hr) λr0 h0 h1=>?_;refine zb (fG.mp h1) λp _ e3_2=>?_;subst e3_2;have:=hr3 r0 h0;rw[fF,fY];exact zzI this
 .intro l O' hR4;refine zw hR4 λe3_0 h3_1 _ _=>?_;subst e3_0;obtain⟨u,v,w,rfl⟩:=h3_1;rw[zlp];exact Ends.same q
 .rw[gY,fY,Nat.one_mul];exact fE (Nat.pow_le_pow_right (by decide) hm) (by decide)
end
section
variable{P:Hk}{X:Cx}{n:Nat}{Q:zk}{Z:XP}{O:AHeap}
theorem zfQ{c:Bool}{A B:Prop}(h:c=true)(q:A):cB c A B:=by rw[h];exact q
theorem zdw{c:Bool}{A B:Prop}(h:c=false)(q:B):cB c A B:=by rw[h];exact q
def Rise(ns:List Int)(n:Int):Prop:=ns.Pairwise (· < ·)/\∀p∈ns,0<=p/\p<n
theorem Rise.lt{ns:List Int}{n:Int}(h:Rise ns n){i:Nat}(hi:i+1<ns.length):ns.getD i 0<ns.getD (i+1) 0:=by
 have:=pP.mp h.1 i (i+1) (zgI hi) hi (fCP i);rw[fQ,fQ,fJ hi,fJ (zgI hi:i<ns.length)];exact this
theorem zbX(G:Gd X (hK P))(hd:n<590){ns:List Int}{m:Int}(hl:ns.length<=100)(hr:Rise ns m)(q:Q (.bool true) O):CallOk X 110 ⟨n,false⟩ [zaz ns,.int m] Q Z O:=by
 refine zhx G (gD hd (by decide)) λL=>?_
 conv=>whnf
 rw[fC];refine zel (zy2 hl) ?_;refine zfa (β:=Unit) (g:=λi:Nat=>AV.int i) (λxs _ l O'=>O=O'/\(∃u,l=[some (zaz ns),some (.int m),u])/\∀i∈xs,i<ns.length) (λb _=>b) ?_ (b:=()) ?_ (zp rfl ⟨_,rfl⟩ (λi hi=>gV.mp hi))
 .rintro i xs _ l O' K ⟨rfl,⟨u,rfl⟩,hx⟩ hK;have hi:=hx i fB;have hp:=hr.2 _ (getD_mem (d:=0) hi);have hK:=hK _ _ (zp rfl ⟨some (.int i),rfl⟩ (λj hj=>hx j (fA _ hj)));refine zd _ rfl ?_;refine zi (jA (ji (d:=0) hi)) ?_;refine zfQ (Hz hp.1) ?_
  conv=>whnf
  rw[Hz hp.2];cases i with
  | zero=>exact⟨trivial,hK⟩
  | succ i=>
   refine zfQ (Hz zzi) ?_;refine zi (jA (ji (d:=0) hi)) ?_
   conv=>whnf
   have e:(((i+1:Nat):Int)-1)=(i:Int):=zsT;rw[e];refine zi (jA (ji (d:=0) (zgI hi))) ?_
   conv=>whnf
   have:=hr.lt hi;refine zdw (Hy (y58 this)) ?_;exact⟨trivial,hK⟩
 .rintro l O' ⟨rfl,⟨u,rfl⟩,_⟩;exact Ends.same q
noncomputable def z9(es:List Ent)(p:Int):Int:=(es.getD p.toNat (0,0)).1
noncomputable def zv(es:List Ent)(p:Int):Int:=(es.getD p.toNat (0,0)).2
noncomputable def zdl(l:List Int)(span:Int):Bool:=l.all λa=>l.all λb=>decide (a-b<=span)
noncomputable def zaG(es fs:List Ent)(m:Mt):List Int:=m.1.map (z9 es)++m.2.map (z9 fs)
theorem zmw{l:List Int}{M m span:Int}(h1:M∈l)(h2:∀a∈l,a<=M)(h3:m∈l)(h4:∀a∈l,m<=a):decide (M-m<=span)=zdl l span:=by
 unfold zdl;rw[Bool.eq_iff_iff,decide_eq_true_iff,fAA];refine⟨λh a ha=>fAA.mpr λb hb=>Hz ?_,λh=>?_⟩
 .have:=h2 a ha;have:=h4 b hb;exact y71 h (by assumption) this
 .exact H0 (fAA.mp (h M h1) m h3)
theorem zmO{es:List Ent}{p:Int}(h0:0<=p)(h1:p<es.length):j8 (es.map zC) p=some (.tup [.int (z9 es p),.int (zv es p)]):=by
 obtain⟨k,rfl⟩:=pS h0;refine(jA (ji (d:=(0,0)) (by lia))).trans ?_;unfold z9 zv
 rfl
noncomputable def zaI(es fs:List Ent)(span:Int)(m:Mt):Bool:=decide ((m.1.map (zv es)).sum=(m.2.map (zv fs)).sum)&&zdl (zaG es fs m) span
theorem zgX{es:List Ent}(h:EsOk es)(p:Int):(zv es p).natAbs<=1000000000:=by
 unfold zv
 by_cases hk:p.toNat<es.length
 .exact h.cents _ (getD_mem hk)
 .rw[fQ,fAF (pE.mp hk)];decide
theorem zff{x:Int}(h:x.natAbs<=1000000000000000):PySem.InLong x:=
 have n:=nab (pD h)
 ⟨fC2 (fC1 (by decide) n.1),fC1 n.2 (by decide)⟩
theorem zjY{ns:List Int}(hl:ns.length<=1000)(h:∀a∈ns,a.natAbs<=1000000000000):PySem.SumFits ns:=by
 have gen:∀(l:List Int),(∀a∈l,a.natAbs<=1000000000000)->l.sum.natAbs<=l.length*1000000000000:=by
  intro l
  induction l with
  | nil=>intro _;simp
  | cons a l ih=>
   intro h;have h1:=h a fB;have h2:=ih λb hb=>h b (fA _ hb);simp only[fDI,fH];exact fE (Int.natAbs_add_le a l.sum) (fE (fDU h1 h2) (pF (by rw[fB1,Nat.add_comm])))
 intro j hj;have h1:=h (ns.getD j 0) (PySem.getD_mem hj);have h2:=gen (ns.take (j+1)) λa ha=>h a (fBW ha);have h3:(ns.take (j+1)).length<=1000:=fE (List.length_take_le' _ _) hl;exact⟨zff (fE h1 (by decide)),zff (fE h2 (pI _ h3))⟩
theorem zfC{es:List Ent}(h:EsOk es){ms:List Int}(hl:ms.length<=100):PySem.SumFits (ms.map (zv es)):=
 zjY (by rw[fC];exact zy1 hl) λa ha=>by
  refine zb (fG.mp ha) λp _ e1_2=>?_;subst e1_2;have:=zgX h p;lia
theorem zkU{xs:List AV}{ns:List Int}(e:xs=ns.map .int)(h:PySem.SumFits ns)(q:Q (.int ns.sum) O):zqA xs Q O:=by unfold zqA;exact zt ns e h q
theorem zp7{ns:List Int}(h:ns≠[])(q:∀M,M∈ns->(∀a∈ns,a<=M)->Q (.int M) O):zp6 (ns.map .int) Q O:=by unfold zp6;exact zt ns rfl h q
theorem zkE{ns:List Int}(h:ns≠[])(q:∀M,M∈ns->(∀a∈ns,M<=a)->Q (.int M) O):zp9 (ns.map .int) Q O:=by unfold zp9;exact zt ns rfl h q
theorem zps(G:Gd X (hK P))(hd:n<580){pb pk:Addr}{es fs:List Ent}{span:Int}{m:Mt}(hb:O pb=some (.list (es.map zC)))(hk:O pk=some (.list (fs.map zC)))(he:EsOk es)(hf:EsOk fs)
  (h1:min (m.1.length:Int) m.2.length=1)(h2:max (m.1.length:Int) m.2.length<=3)(r1:Rise m.1 es.length)(r2:Rise m.2 fs.length)(q:Q (.bool (zaI es fs span m)) O):CallOk X 120 ⟨n,false⟩ [.ref pb,.ref pk,.int span,z8 m] Q Z O:=by
 refine zsd G (gD hd (by decide)) λL=>?_;have l1:m.1.length<=3:=zzz h2;have l2:m.2.length<=3:=zzB h2
 conv=>whnf
 rw[fC,fC];rw[h1];refine zdw (Hy (zzA h2)) ?_;refine zi (zA hb) ?_;rw[fC];refine zbX (G.push L) (ziE hd) (zqV l1) r1 ?_
 conv=>whnf
 refine zi (zA hk) ?_;rw[fC];refine zbX (G.push L) (ziE hd) (zqV l2) r2 ?_;have a1:∀p∈m.1,j8 (es.map zC) p=some (.tup [.int (z9 es p),.int (zv es p)]):=λp hp=>zmO (r1.2 p hp).1 (r1.2 p hp).2;have a2:∀p∈m.2,j8 (fs.map zC) p=some (.tup [.int (z9 fs p),.int (zv fs p)]):=λp hp=>zmO (r2.2 p hp).1 (r2.2 p hp).2;refine js (λp=>.int (zv es p)) (λ_=>rfl) (λ_ _=>rfl) (λp hp R q=>?_) trivial (zsQ l1) ?_
 .exact jj hb (zi (a1 p hp) q)
 refine zkU (ns:=m.1.map (zv es)) (by rw[gA];rfl) (zfC he (zqV l1)) ?_;refine js (λp=>.int (zv fs p)) (λ_=>rfl) (λ_ _=>rfl) (λp hp R q=>?_) trivial (zsQ l2) ?_
 .exact jj hk (zi (a2 p hp) q)
 refine zkU (ns:=m.2.map (zv fs)) (by rw[gA];rfl) (zfC hf (zqV l2)) ?_;unfold zaI at q
 conv=>whnf
 by_cases hs:(m.1.map (zv es)).sum=(m.2.map (zv fs)).sum
 .rw[Hz hs] at q ⊢;rw[fB7] at q;refine kj (G.push L) (ziE hd) (zmC l1) (zmC l2) ?_;refine js (λx=>.int (z9 (if x.1 then fs else es) x.2)) (λ_=>rfl) (λ_ _=>rfl) (λx hx R q=>?_) trivial ?_ ?_
  .have hx:(0<=x.2/\x.2<(if x.1 then fs else es).length):=by
    rcases fS.mp hx with h|h<;>obtain⟨p,hp,rfl⟩:=fG.mp h
    .exact r1.2 p hp
    .exact r2.2 p hp
   obtain⟨k,hk'⟩:=pS hx.1;refine zcH (G.push L) (ziE hd) hb hk (k:=k) (e:=zC ((if x.1 then fs else es).getD k (0,0))) ?_ hk' ?_
   .have:=hx.2;cases hbb:x.1<;>rw[hbb] at this<;>simp only[gC,if_false,if_true] at this ⊢<;>rw[fA8,ji (d:=(0,0)) (by lia)]<;>rfl
   .unfold z9 at q;rw[hk',fA9] at q;exact q
  .unfold ze;rw[fF,fC,fC];exact zAd l1 l2
  have ed:(ze m).map (λx=>AV.int (z9 (if x.1 then fs else es) x.2))=(zaG es fs m).map .int:=by
   unfold ze zaG;rw[fW,fW,gA,gA,gA,gA];rfl
  rw[ed];have ne:zaG es fs m≠[]:=λe=>by
   have:=congrArg List.length e;unfold zaG at this;rw[fF,fC,fC,pQ] at this;exact zzC h1 this
  refine zp7 ne λM hM1 hM2=>?_
  conv=>whnf
  refine zkE ne λM' hM3 hM4=>?_;rw[<-zmw hM1 hM2 hM3 hM4] at q;exact Ends.same q
 .rw[Hy hs] at q ⊢;exact Ends.same q
end
theorem zf2{i j:Int}:PyData.eqv (.int i) (.int j)=(i==j):=by simp[PyData.eqv]
noncomputable def za1(r:List Int):PyData:=.tuple (r.map .int)
noncomputable def szs:List (Nat×Nat):=[(1,1),(1,2),(2,1),(1,3),(3,1)]
theorem mem_ext{ps r s:List Int}:s∈zbu ps r↔∃p∈ps,zai r p=true/\s=r++[p]:=by
 unfold zbu;rw[fG];constructor
 .intro hR1;refine zb hR1 λp hp e0_2=>?_;subst e0_2;exact zt p ((fU.mp hp).1) ((fU.mp hp).2) rfl
 .intro hR2;refine zj hR2 λp hp hl e1_3=>?_;subst e1_3;exact zd p (fU.mpr ⟨hp,hl⟩) rfl
theorem qY{J β:Type}{f:J->β}:∀{l:List J},l.Nodup->(∀a∈l,∀b∈l,f a=f b->a=b)->(l.map f).Nodup:=by
 intro l hn h;rw[fBY,fAD];exact(List.Pairwise.and_mem.mp (fBY.mp hn)).imp λ{a b} ⟨ha,hb,hne⟩ e=>hne (h a ha b hb e)
def Up(ps s:List Int):Prop:=s.Pairwise (· < ·)/\∀p∈s,p∈ps
theorem zd3{r:List Int}{p:Int}(h:r.Pairwise (· < ·)):zai r p=true↔∀a∈r,a<p:=by
 rcases fCL r with rfl|⟨r0,z,rfl⟩
 .simp[zai]
 .rw[fCM] at h ⊢;have hll:zai (r0++[z]) p=decide (p>z):=by unfold zai;simp
  rw[hll,decide_eq_true_iff];have h3:=(gF.mp h).2.2;constructor
  .intro hz a ha
   rcases fS.mp ha with ha|ha
   .have:=h3 a ha z fB;exact y69 hz this
   .have:a=z:=by simpa using ha
    exact y70 hz this
  .intro hz;exact hz z (gL _ fB)
theorem mem_rowsN{ps:List Int}{k:Nat}:∀{s:List Int},s∈qx ps k↔s.length=k/\Up ps s:=by
 induction k with
 | zero=>
  intro s;constructor
  .intro h;rw[fP.mp h];exact zp rfl .nil (λ_ h=>nomatch h)
  .rintro⟨h,_⟩;rw[gZ.mp h];exact fP.mpr rfl
 | succ k ih=>
  intro s;show s∈(qx ps k).flatMap (zbu ps)↔_;rw[pZ];constructor
  .intro hR3;refine zb hR3 λr h1 h2=>?_;refine zj (mem_ext.mp h2) λp hp hl e2_3=>?_;subst e2_3;obtain⟨e,hu⟩:=ih.mp h1;rw[zd3 hu.1] at hl;refine zp (by rw[fF,e];rfl) (gF.mpr (zp hu.1 (fAY _ _) (λa ha b hb=>?_))) (λq hq=>?_)
   .have:b=p:=by simpa using hb
    rw[this];exact hl a ha
   .rcases fS.mp hq with hq|hq
    .exact hu.2 q hq
    .have:q=p:=by simpa using hq
     rw[this];exact hp
  .rintro⟨e,hu⟩
   rcases fCL s with rfl|⟨r,p,rfl⟩
   .cases e
   .rw[fCM] at *;refine jb (gF.mp hu.1) λu1 u2 u3=>?_;exact zd r (ih.mpr (zp (by rw[fF] at e;simpa using e) u1 (λq hq=>hu.2 q (pH _ hq)))) (mem_ext.mpr (zt p (hu.2 p (gL _ fB)) ((zd3 u1).mpr λa ha=>u3 a ha p fB) rfl))
noncomputable def qe(fit:Mt->Bool)(bs:List Int)(k:Nat)(l:List Int):List Mt:=((qx bs k).filter λr=>fit (l,r)).map λr=>(l,r)
noncomputable def zk7(fit:Mt->Bool)(as bs:List Int)(z:Nat×Nat):List Mt:=(qx as z.1).flatMap (qe fit bs z.2)
noncomputable def zmL(fit:Mt->Bool)(as bs:List Int):List Mt:=szs.flatMap (zk7 fit as bs)
theorem mem_matchOf{fit:Mt->Bool}{bs l:List Int}{k:Nat}{x:Mt}:x∈qe fit bs k l↔x.1=l/\x.2.length=k/\Up bs x.2/\fit (l,x.2)=true:=by
 unfold qe;rw[fG];constructor
 .intro hR4;refine zb hR4 λr hr e5_2=>?_;subst e5_2;obtain⟨h1,h2⟩:=fU.mp hr;obtain⟨h3,h4⟩:=mem_rowsN.mp h1;exact zr rfl h3 h4 h2
 .intro hR5;refine zw hR5 λh1 h2 h3 h4=>?_;exact zd x.2 (fU.mpr ⟨mem_rowsN.mpr ⟨h2,h3⟩,h4⟩) (by rw[<-h1])
theorem mem_bySz{fit:Mt->Bool}{as bs:List Int}{z:Nat×Nat}{x:Mt}:x∈zk7 fit as bs z↔x.1.length=z.1/\Up as x.1/\x.2.length=z.2/\Up bs x.2/\fit x=true:=by
 unfold zk7;rw[pZ];constructor
 .intro hR6;refine zb hR6 λl hl hx=>?_;obtain⟨rfl,h2⟩:=mem_matchOf.mp hx;obtain⟨h3,h4⟩:=mem_rowsN.mp hl;exact zp h3 h4 h2
 .intro hR7;refine jb hR7 λh1 h2 h3=>?_;exact zd x.1 (mem_rowsN.mpr ⟨h1,h2⟩) (mem_matchOf.mpr ⟨rfl,h3⟩)
noncomputable def enc:Nat->List Int->Nat
 | 0,_=>0
 | _+1,[]=>0
 | n+1,x::xs=>(x.toNat+1)*100 ^ n+enc n xs
def Sm(l:List Int):Prop:=l.length<=3/\∀p∈l,0<=p/\p<90
theorem ql:∀(n:Nat) {l:List Int},(∀p∈l,0<=p/\p<90)->enc n l<100 ^ n
 | 0,_,_=>(fO _)
 | n+1,[],_=>Nat.pow_pos (by decide)
 | n+1,x::xs,h=>by
  have h1:=ql n (l:=xs) λp hp=>h p (fA _ hp);have h2:=h x fB;show (x.toNat+1)*100 ^ n+enc n xs<100 ^ (n+1);have h3:(x.toNat+1)*100 ^ n<=90*100 ^ n:=pI _ (y7 h2);rw[Nat.pow_succ]
  lia
theorem zkj(n:Nat):∀{l r:List Int},l.length<=n->r.length<=n->(∀p∈l,0<=p/\p<90)->(∀p∈r,0<=p/\p<90)->zbz (l.map .int) (r.map .int)=some (decide (enc n l<enc n r))/\(enc n l=enc n r->l=r):=by
 have pos:∀(x:Int) (xs:List Int) (n:Nat),0<enc (n+1) (x::xs):=λx xs n=>gP (Nat.mul_pos (fCH _) (Nat.pow_pos (by decide))) (pR _ _)
 induction n with
 | zero=>
  intro l r h1 h2 _ _;rw[gZ.mp (fDC.mp h1),gZ.mp (fDC.mp h2)];exact⟨rfl,λ_=>rfl⟩
 | succ n ih=>
  intro l r h1 h2 s1 s2;cases l with
  | nil=>cases r with
   | nil=>exact⟨rfl,λ_=>rfl⟩
   | cons y ys=>
    have h3:=pos y ys n;refine⟨?_,λe=>absurd h3 (Nat.not_lt_of_le (pF e.symm))⟩;rw[Hz (show enc (n+1) []<enc (n+1) (y::ys) from h3)];exact zpZ ..
  | cons x xs=>cases r with
   | nil=>
    have h3:=pos x xs n;refine⟨?_,λe=>absurd h3 (Nat.not_lt_of_le (pF e))⟩;rw[Hy (show ¬enc (n+1) (x::xs)<enc (n+1) [] from fBM _)];exact zpY ..
   | cons y ys=>
    obtain⟨g1,g2⟩:=ih (l:=xs) (r:=ys) (fBJ h1) (fBJ h2) (λp hp=>s1 p (fA _ hp)) λp hp=>s2 p (fA _ hp);have a1:=ql n (l:=xs) λp hp=>s1 p (fA _ hp);have a2:=ql n (l:=ys) λp hp=>s2 p (fA _ hp);have b1:=(s1 x fB).1;have b2:=(s2 y fB).1;have key:enc (n+1) (x::xs)<enc (n+1) (y::ys)↔x<y\/x=y/\enc n xs<enc n ys:=(zaT (M:=100 ^ n) (x:=x.toNat+1) (y:=y.toNat+1) a1 a2).trans (or_congr (fCS.trans (toNat_lt b1 b2)) (and_congr ⟨λe=>kX b1 b2 (Nat.succ.inj e),λe=>by rw[e]⟩ Iff.rfl));refine⟨?_,λe=>?_⟩
    .simp only[gM,qH,zf2]
     by_cases he:x=y
     .subst he;rw[beq_self_eq_true,if_pos rfl,g1];exact congrArg some (decide_eq_decide.mpr (key.trans ⟨λh=>(h.resolve_left (Int.lt_irrefl x)).2,λh=>.inr ⟨rfl,h⟩⟩).symm)
     .rw[beq_eq_false_iff_ne.mpr he,if_neg pK,zcO];exact congrArg some (decide_eq_decide.mpr (key.trans ⟨λh=>h.resolve_right λh=>he h.1,.inl⟩).symm)
    .have e':=zaj (M:=100 ^ n) (x:=x.toNat+1) (y:=y.toNat+1) a1 a2 e;rw[kX b1 b2 (Nat.succ.inj e'.1),g2 e'.2]
theorem zdf:∀(l r:List Int),PyData.eqv (za1 l) (za1 r)=decide (l=r):=by
 intro l r;unfold za1;simp only[PyData.eqv]
 induction l generalizing r with
 | nil=>cases r<;>simp[PyData.eqvAll]
 | cons x xs ih=>
  cases r with
  | nil=>simp[PyData.eqvAll]
  | cons y ys=>
   simp only[gM,PyData.eqvAll,zf2,ih]
   by_cases h:x=y
   .subst h;simp
   .simp[h]
theorem znZ{l r:List Int}(hl:Sm l)(hr:Sm r):ltD (za1 l) (za1 r)=some (decide (enc 3 l<enc 3 r)):=by
 unfold za1;simp only[zd5];exact(zkj 3 hl.1 hr.1 hl.2 hr.2).1
theorem zf1{l r:List Int}(hl:Sm l)(hr:Sm r)(e:enc 3 l=enc 3 r):l=r:=(zkj 3 hl.1 hr.1 hl.2 hr.2).2 e
noncomputable def num(x:Mt):Nat:=(x.1.length+x.2.length)*1000000000000+enc 3 x.1*1000000+enc 3 x.2
def SmM(x:Mt):Prop:=Sm x.1/\Sm x.2
theorem zyh(a b c:Nat):a*1000000000000+b*1000000+c=(a*100 ^ 3+b)*100 ^ 3+c:=by rw[Nat.add_mul (a*100 ^ 3) b,Nat.mul_assoc]
theorem zgq(x:Mt):num x=((x.1.length+x.2.length)*100 ^ 3+enc 3 x.1)*100 ^ 3+enc 3 x.2:=zyh _ _ _
theorem zqe{x y:Mt}(hx:SmM x)(hy:SmM y)(e:num x=num y):x=y:=by
 have a1:=ql 3 hx.1.2;have a2:=ql 3 hx.2.2;have a3:=ql 3 hy.1.2;have a4:=ql 3 hy.2.2;rw[zgq,zgq] at e;have e1:=zaj a2 a4 e;have h1:=(zaj a1 a3 e1.1).2;have h2:=e1.2;exact Prod.ext (zf1 hx.1 hy.1 h1) (zf1 hx.2 hy.2 h2)
noncomputable def szI(x:Mt):Int:=(x.1.length:Int)+x.2.length
noncomputable def zlD(x:Mt):PyData:=.tuple [.int (szI x),.tuple [za1 x.1,za1 x.2]]
theorem znY{x y:Mt}(hx:SmM x)(hy:SmM y):zbz [za1 x.1,za1 x.2] [za1 y.1,za1 y.2]=some (decide (enc 3 x.1*1000000+enc 3 x.2<enc 3 y.1*1000000+enc 3 y.2)):=by
 have a2:=ql 3 hx.2.2;have a4:=ql 3 hy.2.2;simp only[qH,zgf,zdf,decide_eq_true_eq]
 by_cases h1:x.1=y.1
 .rw[if_pos h1,h1]
  by_cases h2:x.2=y.2
  .rw[if_pos h2,h2,Hy (fBN _)]
  .rw[if_neg h2,znZ hx.2 hy.2];exact congrArg some (decide_eq_decide.mpr Nat.add_lt_add_iff_left.symm)
 .rw[if_neg h1,znZ hx.1 hy.1];exact congrArg some (decide_eq_decide.mpr ((zaT (M:=1000000) a2 a4).trans ⟨λh=>h.resolve_right λh=>h1 (zf1 hx.1 hy.1 h.1),.inl⟩).symm)
theorem zst{x y:Mt}(hx:SmM x)(hy:SmM y)(hne:x.1.length+x.2.length≠y.1.length+y.2.length):x.1.length+x.2.length<y.1.length+y.2.length↔num x<num y:=by
 have a1:=ql 3 hx.1.2;have a2:=ql 3 hx.2.2;have a3:=ql 3 hy.1.2;have a4:=ql 3 hy.2.2;rw[zgq,zgq,zaT a2 a4,zaT a1 a3];refine⟨λh=>.inl (.inl h),λh=>h.elim (λh=>h.resolve_right λh=>hne h.1) λh=>absurd (zaj a1 a3 h.1).1 hne⟩
theorem zhD{x y:Mt}(hx:SmM x)(hy:SmM y){t:Option Bool}(h:szI x=szI y->t=some (decide (enc 3 x.1*1000000+enc 3 x.2<enc 3 y.1*1000000+enc 3 y.2))):(if (szI x==szI y)=true then t else ltD (.int (szI x)) (.int (szI y)))=some (decide (num x<num y)):=by
 by_cases e:szI x=szI y
 .rw[e,beq_self_eq_true,if_pos rfl,h e];unfold num;exact congrArg some (decide_eq_decide.mpr (by rw[fAU,fAU (_*_),show x.1.length+x.2.length=y.1.length+y.2.length from Int.ofNat.inj e,Nat.add_lt_add_iff_left]))
 .rw[beq_eq_false_iff_ne.mpr e,if_neg (by decide)];unfold szI at e ⊢;simp only[zcO];refine congrArg some (decide_eq_decide.mpr (Iff.trans fAI (zst hx hy λh=>e (congrArg Int.ofNat h))))
theorem zsj{x y:Mt}(hx:SmM x)(hy:SmM y):ltD (zlD x) (zlD y)=some (decide (num x<num y)):=by
 unfold zlD;rw[zd5,qH,zf2];refine zhD hx hy λ_=>?_;simp only[qH,zgf,zd5,zcO,PyData.eqv,PyData.eqvAll,fDG]
 by_cases h:x=y
 .subst h;rw[if_pos (by simp[zdf]),Hy (fBN _)]
 .have:¬((PyData.eqv (za1 x.1) (za1 y.1)&&PyData.eqv (za1 x.2) (za1 y.2))=true):=by
   rw[zdf,zdf,gX,decide_eq_true_eq,decide_eq_true_eq];exact λe=>h (Prod.ext e.1 e.2)
  rw[if_neg this];exact znY hx hy
section
variable{P:Hk}{X:Cx}{n:Nat}{Q:zk}{Z:XP}{O:AHeap}
noncomputable def zex(s:Bool)(g:List zc):List Int:=(g.filter λm=>m.1==s).map (·.2)
structure GOk(g:List zc)(na nb:Nat):Prop where
 nodup:g.Nodup
 inn:∀m∈g,0<=m.2/\m.2<((if m.1 then nb else na:Nat):Int)
 few:g.length<=8
 small:na<=80/\nb<=80
noncomputable def unI(v:AV):Int:=match v with
 | .int i=>i
 | _=>0
theorem zoI{s:Bool}{g:List zc}(h:g.length<=8):(zex s g).length<=8:=by unfold zex;rw[fC];exact fE (fAG ..) h
theorem side_mem{s:Bool}{g:List zc}{p:Int}:p∈zex s g↔(s,p)∈g:=by
 unfold zex;rw[fG];constructor
 .intro hR1;refine zb hR1 λh0_0 h e0_2=>?_;obtain⟨b,i⟩:=h0_0;subst e0_2;obtain⟨h1,h2⟩:=fU.mp h;have h2:b=s:=H1 h2;subst h2;exact h1
 .intro h;exact zd (s,p) (fU.mpr ⟨h,BEq.rfl⟩) rfl
theorem zru{r:Bool}{ns:List Int}(h0:∀p∈ns,0<=p)(q:mkL r ((srt Int.toNat ns).map .int) Q O):zh8 r (ns.map .int) Q O:=by
 refine zh9 unI (λ_=>rfl) Int.toNat (λx hx y hy e=>by have:=h0 x hx;have:=h0 y hy;exact y54 e (by assumption) this) (.inr λx hx=>?_) (λx hx y hy=>?_) q
 .refine zb (fG.mp hx) λi _ e1_2=>?_;subst e1_2;exact⟨i,rfl⟩
 .refine ja _ _ (.int _) (.int _) (by simp[PyData.depth]) (by simp[PyData.depth]) ?_;exact congrArg some (decide_eq_decide.mpr (toNat_lt (h0 x hx) (h0 y hy)).symm)
noncomputable def ups(s:Bool)(g:List zc):List Int:=srt Int.toNat (zex s g)
theorem ups_mem{s:Bool}{g:List zc}{p:Int}:p∈ups s g↔(s,p)∈g:=(zU ..).mem_iff.trans side_mem
theorem zdn{s:Bool}{g:List zc}(h:g.length<=8):(ups s g).length<=8:=by unfold ups;rw[(zU ..).length_eq];exact zoI h
noncomputable def win(es fs:List Ent)(span:Int)(g:List zc):List Mt:=srt num (zmL (zaI es fs span) (ups false g) (ups true g))
theorem kP{ps:List Int}(h:ps.length<=8)(k:Nat):(qx ps k).length<=8 ^ k:=by
 induction k with
 | zero=>exact fO 1
 | succ k ih=>exact fE (zhb (c:=8) (λa=>fE (zdL ps a) h) _) (by rw[Nat.pow_succ];exact pI 8 ih)
theorem zpQ{x y:Mt}(hx:SmM x)(hy:SmM y):zdq O (.tup [.int ((x.1.length:Int)+x.2.length),z8 x]) (.tup [.int ((y.1.length:Int)+y.2.length),z8 y]) (decide (num x<num y)):=by
 have rdI:∀l:List Int,RdL O (l.map .int) (l.map .int):=λl=>by
  induction l with
  | nil=>exact .nil
  | cons i l ih=>exact .cons (.int i) ih
 have rd:∀z:Mt,Rd O (.tup [.int ((z.1.length:Int)+z.2.length),z8 z]) (zlD z):=λz=>.tup (.cons (.int _) (.cons (.tup (.cons (.tup (rdI _)) (.cons (.tup (rdI _)) .nil))) .nil));have dI:∀l:List Int,PyData.depthAll (l.map .int)=0:=λl=>by
  induction l with
  | nil=>rfl
  | cons i l ih=>rw[gM,PyData.depthAll,ih];rfl
 have dp:∀z:Mt,(zlD z).depth<=100:=λz=>by
  unfold zlD za1;simp only[PyData.depth,PyData.depthAll,dI];decide
 exact ja _ _ (rd x) (rd y) (dp x) (dp y) (zsj hx hy)
theorem ziK{fit:Mt->Bool}{g:List zc}{na nb:Nat}(hg:GOk g na nb){x:Mt}(h:x∈zmL fit (ups false g) (ups true g)):SmM x/\Rise x.1 na/\Rise x.2 nb/\min x.1.length x.2.length=1/\fit x=true:=by
 refine zb (pZ.mp h) λz hz hx=>?_;refine qa (mem_bySz.mp hx) λh1 u1 h2 u2 h3=>?_;have hzl:∀z∈szs,z.1<=3/\z.2<=3/\min z.1 z.2=1:=by decide
 refine jb (hzl z hz) λz1 z2 z3=>?_;have i1:∀p∈x.1,0<=p/\p<(na:Int):=λp hp=>hg.inn _ (ups_mem.mp (u1.2 p hp));have i2:∀p∈x.2,0<=p/\p<(nb:Int):=λp hp=>hg.inn _ (ups_mem.mp (u2.2 p hp));have:=hg.small;exact jz (zp ⟨zwt h1 z1,λp hp=>by have:=i1 p hp;exact y99 (by assumption) this⟩ (zwt h2 z2) (λp hp=>by have:=i2 p hp;exact zup (by assumption) this)) ⟨u1.1,i1⟩ ⟨u2.1,i2⟩ (zCK h1 h2 z3) h3
theorem zum:∃u:AV->Mt,∀x,u (z8 x)=x:=⟨λv=>match v with
  | .tup [.tup a,.tup b]=>(a.map unI,b.map unI)
  | _=>([],[]),λx=>by
   show (_,_)=x;rw[gA,gA];have:unI∘AV.int=id:=rfl;rw[this,fCF,fCF]⟩
theorem zl6{hb:Bool}{X:Cx}{xs:List Mt}{f:Addr}(hc:∀{m:Mt} {Q:zk} {Z:XP},Q (.tup [.int ((m.1.length:Int)+m.2.length),z8 m]) O->CallOk X f ⟨n+1,hb⟩ [z8 m] Q Z O)(hd:n<580)(h:∀x∈xs,SmM x){r:Bool}(q:mkL r ((srt num xs).map z8) Q O):zeA X f r ⟨n,hb⟩ (xs.map z8) Q O:=by
 refine jo zum λu hu=>?_;unfold zeA;refine ja (λv=>.tup [.int (((u v).1.length:Int)+(u v).2.length),v]) (λv=>num (u v)) (by lia) (λv hv=>?_) (λv hv=>(jL _ _ rfl)) (λv hv w hw=>?_) (λys h1 h2=>?_)
 .refine zb (fG.mp hv) λx hx e6_2=>?_;subst e6_2;refine hc ?_;exact⟨by dsimp only;rw[hu],rfl⟩
 .refine zb (fG.mp hv) λx hx e7_2=>?_;subst e7_2;refine zb (fG.mp hw) λy hy e8_2=>?_;subst e8_2;simp only[hu];exact zpQ (h x hx) (h y hy)
 .obtain⟨p1,p2⟩:=zgr hu h1;rw[p2,zij (λx hx y hy=>zqe (h x hx) (h y hy)) p1 (fAD.mpr h2)];exact q
theorem zeB{hb:Bool}{X:Cx}{xs:List Mt}(G:Gd X (hK P))(hd:n<580)(h:∀x∈xs,SmM x){r:Bool}(q:mkL r ((srt num xs).map z8) Q O):zeA X 132 r ⟨n,hb⟩ (xs.map z8) Q O:=zl6 (λq=>ziM G (ziE hd) q) hd h q
noncomputable def zio(z:Nat×Nat):AV:=.tup [.int (z.1:Nat),.int (z.2:Nat)]
theorem zaJ{J β:Type}(f:J->List β)(xs:List J)(acc:List β):xs.foldl (λb x=>b++f x) acc=acc++xs.flatMap f:=by
 induction xs generalizing acc with
 | nil=>exact(gU _).symm
 | cons x xs ih=>rw[pM,ih,fAP,gH]
noncomputable def wiL(pb pk:Addr)(span:Int)(g:List zc)(p:Addr)(u v w:Option AV):Loc:=[some (.ref pb),some (.ref pk),some (.int span),some (gAV g),some (.lst ((ups false g).map .int)),some (.lst ((ups true g).map .int)),some (.ref p),u,v,w]
def Wi(O:AHeap)(p:Addr)(L:(Nat->Option AV)->Loc)(N c:Nat){J:Type}(W xs:List J)(b:List Mt)(l:Loc)(O':AHeap):Prop:=(∃U,l=L U)/\O'=O.set p (.list (b.map z8))/\b.length+c*xs.length<=N/\∀x∈xs,x∈W
section
variable{pb pk p:Addr}{es fs:List Ent}{span:Int}{g:List zc}{I:AHeap->Prop}{K:Loc->AHeap->Prop}{S:zN}{d N:Nat}{z:Nat×Nat}{lr:List Int}{l:Loc}{O':AHeap}
theorem wi3(G:Gd X (hK P))(hd:d<571)(hb:O pb=some (.list (es.map zC)))(hk:O pk=some (.list (fs.map zC)))(he:EsOk es)(hf:EsOk fs)(hg:GOk g es.length fs.length)(hp:O p=none)(hI:∀O,I O)(hN:N<=100000)(hz:z∈szs)(hlr:lr∈qx (ups false g) z.1){rr:List Int}{ws:List (List Int)}{a:List Mt}
  (h:Wi O p (λU=>wiL pb pk span g p (some (zio z)) (some (zaz lr)) (U 0)) N 1 (qx (ups true g) z.2) (rr::ws) a l O')(hK:∀l' O',Wi O p (λU=>wiL pb pk span g p (some (zio z)) (some (zaz lr)) (U 0)) N 1 (qx (ups true g) z.2) ws (a++if zaI es fs span (lr,rr) then [(lr,rr)] else []) l' O'->K l' O') :
  ∃l',jP (.one 9) (zaz rr) l=some l'/\zcX X ⟨d,false⟩ l' (Gy I K S) Gz O':=by
 refine zw h λhl hs hle hw=>jo hl λU el=>?_;have hw:=fR.mp hw;clear h;subst el hs;rw[fH] at hle;have hzl:∀z∈szs,z.1<=3/\z.2<=3/\min z.1 z.2=1:=by decide
 refine jb (hzl z hz) λz1 z2 z3=>qj (mem_rowsN.mp hlr) λm1 m2=>qj (mem_rowsN.mp hw.1) λm3 m4=>?_;refine zd _ rfl ?_;refine zps G (gD hd (by decide)) (m:=(lr,rr)) (zQ hp _ _ hb) (zQ hp _ _ hk) he hf (by dsimp only;exact zCk z3 m1 m3) (by dsimp only;exact zC2 z1 z2 m1 m3) ⟨m2.1,λp hp=>hg.inn _ (ups_mem.mp (m2.2 p hp))⟩ ⟨m4.1,λp hp=>hg.inn _ (ups_mem.mp (m4.2 p hp))⟩ ?_;cases hfit:zaI es fs span (lr,rr) with
 | true=>
  rw[hfit,if_pos rfl] at hK;exact zL (AHeap.wA ..) (zL (AHeap.wA ..) (zV (by rw[fC];exact zuv hN hle) ⟨hI _,hK _ _ (zr ⟨λ_=>_,rfl⟩ (by rw[fW];exact zdk) (by rw[fF,fY];exact zut hle) hw.2)⟩))
 | false=>
  rw[hfit,if_neg pK,gU] at hK;exact⟨hI _,hK _ _ (zr ⟨λ_=>_,rfl⟩ rfl (zuu hle) hw.2)⟩
theorem zlP{fit:Mt->Bool}{bs lr:List Int}(h:bs.length<=8)(k:Nat):(qe fit bs k lr).length<=8 ^ k:=by
 unfold qe;rw[fC];exact fE (fAG ..) (kP h k)
theorem zjs{fit:Mt->Bool}{bs lr:List Int}{k:Nat}:(qx bs k).flatMap (λr=>if fit (lr,r) then [(lr,r)] else [])=qe fit bs k lr:=by
 unfold qe;generalize qx bs k=rs
 induction rs with
 | nil=>rfl
 | cons r rs ih=>
  rw[fAP,fBG,ih];cases fit (lr,r)<;>rfl
theorem wi2(G:Gd X (hK P))(hd:d<571)(hb:O pb=some (.list (es.map zC)))(hk:O pk=some (.list (fs.map zC)))(he:EsOk es)(hf:EsOk fs)(hg:GOk g es.length fs.length)(hp:O p=none)(hI:∀O,I O)(hN:N<=90000)(hz:z∈szs){ys:List (List Int)}{c:List Mt}
  (h:Wi O p (λU=>wiL pb pk span g p (some (zio z)) (U 0) (U 1)) N (8 ^ z.2) (qx (ups false g) z.1) (lr::ys) c l O')(hK:∀l' O',Wi O p (λU=>wiL pb pk span g p (some (zio z)) (U 0) (U 1)) N (8 ^ z.2) (qx (ups false g) z.1) ys (c++qe (zaI es fs span) (ups true g) z.2 lr) l' O'->K l' O') :
  ∃l',jP (.one 8) (zaz lr) l=some l'/\zcW X ⟨d,false⟩ l' (Gy I K S) Gz O':=by
 refine zw h λhl hs hle hy=>jo hl λU el=>?_;have hy:=fR.mp hy;clear h;subst el;rw[fH,Nat.mul_succ] at hle;have hzl:∀z∈szs,z.2<=3/\8 ^ z.2<=512:=by decide
 have l2:=zdn (s:=true) hg.few;have r2:=kP l2 z.2;refine zd _ rfl ?_;refine zes G (gD hd (by decide)) l2 (hzl z hz).1 ?_;refine zH (Wi O p (λU=>wiL pb pk span g p (some (zio z)) (some (zaz lr)) (U 0)) (c.length+8 ^ z.2) 1 (qx (ups true g) z.2)) (λa r=>a++if zaI es fs span (lr,r) then [(lr,r)] else []) (λrr ws a l O' K' S_ h hK'=>wi3 G hd hb hk he hf hg hp (λ_=>trivial) (zuw hN hle) hz hy.1 h hK') (b:=c) (λl O' h=>?_) (zr ⟨λ_=>_,rfl⟩ hs (by rw[Nat.one_mul];exact fA0 r2 _) (λr hr=>hr));refine zw h λhl hs _ _=>jo hl λU el=>?_;rw[zaJ,zjs] at hs;have hm:=zlP (fit:=zaI es fs span) (lr:=lr) l2 z.2;exact⟨hI _,hK _ _ (zr ⟨λi=>[_,_].getD i none,el⟩ hs (by rw[fF];exact zux hle hm) hy.2)⟩
theorem wi1(G:Gd X (hK P))(hd:d<571)(hb:O pb=some (.list (es.map zC)))(hk:O pk=some (.list (fs.map zC)))(he:EsOk es)(hf:EsOk fs)(hg:GOk g es.length fs.length)(hp:O p=none)(hI:∀O,I O){xs:List (Nat×Nat)}{b:List Mt}
  (h:Wi O p (λU=>wiL pb pk span g p (U 0) (U 1) (U 2)) 20480 4096 szs (z::xs) b l O')(hK:∀l' O',Wi O p (λU=>wiL pb pk span g p (U 0) (U 1) (U 2)) 20480 4096 szs xs (b++zk7 (zaI es fs span) (ups false g) (ups true g) z) l' O'->K l' O') :
  ∃l',jP (.one 7) (zio z) l=some l'/\zcV X ⟨d,false⟩ l' (Gy I K S) Gz O':=by
 refine zw h λhl hs hle hx=>jo hl λU el=>?_;have hx:=fR.mp hx;clear h;subst el;rw[fH] at hle;have hzl:∀z∈szs,z.1<=3/\8 ^ z.1*8 ^ z.2<=4096:=by decide
 have l1:=zdn (s:=false) hg.few;have r1:=fE (pI (8 ^ z.2) (kP l1 z.1)) (hzl z hx.1).2;refine zd _ rfl ?_;refine zes G (gD hd (by decide)) l1 (hzl z hx.1).1 ?_;refine zH (Wi O p (λU=>wiL pb pk span g p (some (zio z)) (U 0) (U 1)) (b.length+4096) (8 ^ z.2) (qx (ups false g) z.1)) (λc r=>c++qe (zaI es fs span) (ups true g) z.2 r) (λlr ys c l O' K' S_ h hK'=>wi2 G hd hb hk he hf hg hp (λ_=>trivial) (zus hle) hx.1 h hK') (b:=b) (λl O' h=>?_) (zr ⟨λi=>[_,_].getD i none,rfl⟩ hs (by rw[fDP];exact fA0 r1 _) (λr hr=>hr));refine zw h λhl hs hle' _=>jo hl λU el=>?_;rw[zaJ] at hs hle';exact⟨hI _,hK _ _ (zr ⟨λi=>[_,_,_].getD i none,el⟩ hs (by have hle':(b++zk7 (zaI es fs span) (ups false g) (ups true g) z).length<=b.length+4096:=fE (pR _ _) hle';exact zE1 hle hle') hx.2)⟩
end
theorem zmB(G:Gd X (hK P))(hd:n<570){pb pk:Addr}{es fs:List Ent}{span:Int}{g:List zc}(hb:O pb=some (.list (es.map zC)))(hk:O pk=some (.list (fs.map zC)))(he:EsOk es)(hf:EsOk fs)(hg:GOk g es.length fs.length)
  (q:Q (.lst ((win es fs span g).map z8)) O):CallOk X 137 ⟨n,false⟩ [.ref pb,.ref pk,.int span,gAV g] Q Z O:=by
 refine znO G (gD hd (by decide)) λL=>?_;have lg:=hg.few;have e1:∀s,(g.filter λm=>m.1==s).map (λm:zc=>AV.int m.2)=(zex s g).map .int:=λs=>by unfold zex;rw[gA];rfl
 refine jH (λm:zc=>m.1==false) (λm=>.int m.2) (λ_=>rfl) (λ_ _=>rfl) (λm hm R q=>?_) (λm hm _ R q=>q) trivial (zsR lg) ?_
 .obtain⟨b,i⟩:=m;cases b<;>exact q
 rw[e1];refine zru (λp hp=>(hg.inn _ (side_mem.mp hp)).1) ?_;refine jH (λm:zc=>m.1==true) (λm=>.int m.2) (λ_=>rfl) (λ_ _=>rfl) (λm hm R q=>?_) (λm hm _ R q=>q) trivial (zsR lg) ?_
 .obtain⟨b,i⟩:=m;cases b<;>exact q
 rw[e1];refine zru (λp hp=>(hg.inn _ (side_mem.mp hp)).1) ?_;intro p hp;change zhd _ _ _ _ _ (szs.map zio) _ _;refine zH (Wi O p (λU=>wiL pb pk span g p (U 0) (U 1) (U 2)) 20480 4096 szs) (λb z=>b++zk7 (zaI es fs span) (ups false g) (ups true g) z) (λz xs b l O' K S_ h hK=>wi1 (G.push L) (fA3 hd) hb hk he hf hg hp (λ_=>trivial) h hK) (b:=[]) (λl O' h=>?_) (zr ⟨λi=>[_,_,_].getD i none,rfl⟩ rfl (by decide) (λz hz=>hz));refine zw h λhl hs _ _=>jo hl λU el=>?_;rw[zaJ,fA6] at hs;subst el hs;clear h;refine zi (zA (AHeap.wA ..)) ?_;refine zeB (G.push L) (zv0 hd) (λx hx=>(ziK hg hx).1) ?_;exact Ends.drop (zQ hp) q
end
noncomputable def zdb(ms:List Mt)(r:List zc):List (List zc):=ms.filterMap (qd r)
noncomputable def jE(ms:List Mt)(r:List zc):List (List zc):=match r with|[]=>[]|_::t=>t::zdb ms r
noncomputable def zbv(row nx:List (List zc)):List (List zc):=nx.foldl (λw b=>if b∈w then w else w++[b]) row
noncomputable def zG(ms:List Mt)(g:List zc):Nat->List (List zc)
 | 0=>[g]
 | k+1=>match (zG ms g k)[k]? with|some r=>zbv (zG ms g k) (jE ms r)|none=>zG ms g k
theorem znS{r b:List zc}{m:Mt}(h:qd r m=some b):b.Sublist r.tail:=by
 unfold qd at h;split at h
 .exact absurd (Eq.symm h) (fN _)
 .rename_i x t
  split at h
  .rename_i hc
   obtain rfl:=Hx h;rw[fBG];have:(!decide (x∈ze m))=false:=by simp[hc.1]
   rw[this];simp only[gC,if_false,List.tail_cons];exact pL
  .exact absurd (Eq.symm h) (fN _)
theorem zcw{ms:List Mt}{r b:List zc}(h:b∈jE ms r):b.Sublist r.tail:=by
 unfold jE at h;split at h
 .cases h
 .rename_i x t
  rcases fM.mp h with rfl|h
  .exact List.Sublist.refl _
  .refine zb (pU.mp h) λm _ hm=>?_;exact znS hm
theorem j6{ms:List Mt}{r b:List zc}(h:b∈jE ms r):b.length<r.length:=by
 have h1:=(zcw h).length_le;cases r with
 | nil=>cases h
 | cons x t=>simp at h1 ⊢;exact zEq h1
noncomputable def zoP:List zc->List (List zc)
 | []=>[[]]
 | x::t=>zoP t++(zoP t).map (x::·)
theorem zim:∀l:List zc,(zoP l).length=2 ^ l.length
 | []=>rfl
 | x::t=>by simp only[zoP,fF,fC,zim t,fH];lia
theorem zoa{l b:List zc}(h:b.Sublist l):b∈zoP l:=by
 induction h with
 | slnil=>exact fP.mpr rfl
 | cons a h ih=>exact pH _ ih
 | cons_cons a h ih=>exact gL _ (fG.mpr (zd _ ih rfl))
theorem zb4{J:Type}[DecidableEq J]{l:List J}:∀{u:List J},l.Nodup->(∀x∈l,x∈u)->l.length<=u.length:=by
 induction l with
 | nil=>exact λ_ _=>fV _
 | cons a l ih=>
  intro u hn hs;have ha:=hs a fB;obtain⟨hn1,hn2⟩:=fT.mp hn;have:=ih (u:=u.erase a) hn2 λx hx=>(fCU λe:x=a=>hn1 (by rw[<-e];exact hx)).mpr (hs x (fA _ hx));rw[fB8 ha] at this;have h0:0<u.length:=fA2 ha;simp only[fH];exact ztj this h0
theorem zpz(nx:List (List zc)):∀(row:List (List zc)),∃ex,zbv row nx=row++ex:=by
 induction nx with
 | nil=>exact λrow=>⟨[],(gU _).symm⟩
 | cons b nx ih=>
  intro row;unfold zbv;rw[pM];split
  .exact ih row
  .obtain⟨ex,h⟩:=ih (row++[b]);exact⟨b::ex,by unfold zbv at h;rw[h,gH];rfl⟩
theorem zi7(nx:List (List zc)):∀(row:List (List zc)),row.Nodup->(zbv row nx).Nodup:=by
 induction nx with
 | nil=>exact λrow h=>h
 | cons b nx ih=>
  intro row h;unfold zbv;rw[pM];split
  .exact ih row h
  .rename_i hb
   refine ih (row++[b]) ?_;rw[gT];exact zp h (fT.mpr ⟨gQ,.nil⟩) (λx hx y hy e=>hb (by simp at hy;rw[<-hy,<-e];exact hx))
theorem zhh{b:List zc}(nx:List (List zc)):∀(row:List (List zc)),b∈zbv row nx↔b∈row\/b∈nx:=by
 induction nx with
 | nil=>exact λrow=>⟨.inl,λh=>h.resolve_right gQ⟩
 | cons c nx ih=>
  intro row;unfold zbv;rw[pM];split
  .rename_i hc
   have:=ih row;unfold zbv at this;rw[this,fM];exact⟨λh=>h.elim .inl λh=>.inr (.inr h),λh=>h.elim .inl λh=>h.elim (λe=>.inl (e▸hc)) .inr⟩
  .have:=ih (row++[c]);unfold zbv at this;rw[this,fS,fP,fM];exact⟨λh=>h.elim (λh=>h.elim .inl λh=>.inr (.inl h)) λh=>.inr (.inr h),λh=>h.elim (λh=>.inl (.inl h)) λh=>h.elim (λh=>.inl (.inr h)) .inr⟩
section
variable{ms:List Mt}{g:List zc}
theorem zao{k:Nat}{r:List zc}(h:(zG ms g k)[k]? = some r):zG ms g (k+1)=zbv (zG ms g k) (jE ms r):=by
 show (match (zG ms g k)[k]? with|some r=>zbv (zG ms g k) (jE ms r)|none=>zG ms g k)=_;rw[h]
theorem zoy(k j:Nat):∃ex,zG ms g (k+j)=zG ms g k++ex:=by
 induction j with
 | zero=>exact⟨[],(gU _).symm⟩
 | succ j ih=>
  refine jo ih λex h=>?_;show ∃ex,(match (zG ms g (k+j))[k+j]? with|some r=>zbv (zG ms g (k+j)) (jE ms r)|none=>zG ms g (k+j))=_;cases (zG ms g (k+j))[k+j]? with
  | some r=>exact jo (zpz (jE ms r) (zG ms g (k+j))) λex' h'=>⟨ex++ex',h'.trans (by rw[h,gH])⟩
  | none=>exact⟨ex,h⟩
theorem zcf{k n:Nat}(h:k<=n):∃ex,zG ms g n=zG ms g k++ex:=by
 obtain⟨j,rfl⟩:=Nat.exists_eq_add_of_le h;exact zoy k j
theorem qw:∀k,(zG ms g k).Nodup
 | 0=>(fT.mpr ⟨gQ,.nil⟩)
 | k+1=>by
  show (match (zG ms g k)[k]? with|some r=>zbv (zG ms g k) (jE ms r)|none=>zG ms g k).Nodup;split
  .exact zi7 _ _ (qw k)
  .exact qw k
theorem kO(k:Nat):∀r∈zG ms g k,r.Sublist g:=by
 induction k with
 | zero=>intro r h;have:r=g:=fP.mp h;subst this;exact List.Sublist.refl _
 | succ k ih=>
  intro r h;have h:r∈(match (zG ms g k)[k]? with|some r=>zbv (zG ms g k) (jE ms r)|none=>zG ms g k):=h;split at h
  .rename_i r' hr'
   rcases(zhh _ _).mp h with h|h
   .exact ih r h
   .exact((zcw h).trans (List.tail_sublist _)).trans (ih r' (pT hr'))
  .exact ih r h
theorem zkT{w:List (List zc)}(hn:w.Nodup)(hs:∀r∈w,r.Sublist g)(hg:g.length<=8):w.length<=256:=by
 refine fE (zb4 hn λx hx=>zoa (hs x hx)) ?_;rw[zim];exact fE (Nat.pow_le_pow_right (by decide) hg) (by decide)
def Turns(ms:List Mt)(g:List zc)(k:Nat):Prop:=k<=(zG ms g k).length/\∀j,j<k->j<(zG ms g j).length
theorem Turns.zero:Turns ms g 0:=⟨fV _,λj h=>absurd h (fBM j)⟩
theorem Turns.succ{k:Nat}(h:Turns ms g k)(hk:k<(zG ms g k).length):Turns ms g (k+1):=by
 refine⟨?_,λj hj=>?_⟩
 .obtain⟨ex,e⟩:=zcf (ms:=ms) (g:=g) (fA7 k);rw[e,fF];exact zEr hk
 .rcases Nat.lt_or_ge j k with h1|h1
  .exact h.2 j h1
  .have:j=k:=by exact zEp hj h1
   subst this;exact hk
def End(ms:List Mt)(g:List zc)(n:Nat):Prop:=Turns ms g n/\(zG ms g n).length<=n
theorem End.closed{n:Nat}(h:End ms g n){r b:List zc}(hr:r∈zG ms g n)(hb:b∈jE ms r):b∈zG ms g n:=by
 obtain⟨j,hj⟩:=fAR.mp hr;have hl:j<(zG ms g n).length:=(fX.mp hj).1;have hjn:j<n:=gP hl h.2;have hjj:=h.1.2 j hjn;obtain⟨ex,e⟩:=zcf (ms:=ms) (g:=g) (fAB hjn);have hj':(zG ms g j)[j]? = some r:=by rw[e,pC hjj] at hj;exact hj
 obtain⟨ex',e'⟩:=zcf (ms:=ms) (g:=g) (show j+1<=n from hjn);rw[e'];refine pH _ ?_;rw[zao hj'];exact(zhh _ _).mpr (.inr hb)
end
def IsMin(i:Int)(l:List Int):Prop:=i∈l/\∀b∈l,i<=b
theorem IsMin.vN{i j:Int}{l:List Int}(h:IsMin i l)(h':IsMin j l):i=j:=by
 have:=h.2 j h'.1;have:=h'.2 i h.1;exact zD2 (by assumption) this
theorem zjd(l:List Int):∀(a:Int),IsMin (l.foldl min a) (a::l):=by
 induction l with
 | nil=>exact λa=>⟨fB,λb hb=>(fP.mp hb)▸fBA _⟩
 | cons x l ih=>
  intro a;have h:=ih (min a x);have h0:l.foldl min (min a x)<=min a x:=h.2 _ fB;refine⟨?_,fR.mpr ⟨zD4 h0,fR.mpr ⟨zD5 h0,λb hb=>h.2 b (fA _ hb)⟩⟩⟩
  rcases fM.mp h.1 with e|hm
  .rw[pM,e]
   rcases fCZ a x with q|q
   .rw[fCV q];exact fB
   .rw[fCN q];exact fA _ fB
  .exact fA _ (fA _ hm)
noncomputable def lvF(ms:List Mt):Nat->List zc->Int
 | 0,_=>0
 | n+1,[]=>0
 | n+1,x::t=>((zdb ms (x::t)).map (lvF ms n)).foldl min (1+lvF ms n t)
theorem zsk(ms:List Mt)(n:Nat):∀(m:Nat) (r:List zc),r.length<=n->r.length<=m->lvF ms n r=lvF ms m r:=by
 induction n with
 | zero=>
  intro m r h _;rw[fAW (fDC.mp h)];cases m<;>rfl
 | succ n ih=>
  intro m r h1 h2;cases r with
  | nil=>cases m<;>rfl
  | cons x t=>
   cases m with
   | zero=>exact absurd h2 (Nat.not_succ_le_zero _)
   | succ m=>
    have h1:t.length+1<=n+1:=h1;have h2:t.length+1<=m+1:=h2;have e:(zdb ms (x::t)).map (lvF ms n)=(zdb ms (x::t)).map (lvF ms m):=gG λb hb=>by
     have h:b.length<t.length+1:=j6 (ms:=ms) (r:=x::t) (b:=b) (fA _ hb);exact ih m b (zq2 h1 h) (zq2 h2 h)
    simp only[lvF];rw[e,ih m t (zqX h1) (zqX h2)]
structure Lv(ms:List Mt)(lv:List zc->Int):Prop where
 nil:lv []=0
 cons:∀x t,IsMin (lv (x::t)) ((1+lv t)::(zdb ms (x::t)).map lv)
noncomputable def ku(ms:List Mt)(r:List zc):Int:=lvF ms r.length r
theorem zkA(ms:List Mt):Lv ms (ku ms):=by
 refine⟨rfl,λx t=>?_⟩;have e:(zdb ms (x::t)).map (ku ms)=(zdb ms (x::t)).map (lvF ms t.length):=by
  refine gG λb hb=>zsk ms _ _ b (fO _) ?_;have:=j6 (ms:=ms) (r:=x::t) (b:=b) (fA _ hb);simp at this;exact zs0 this
 rw[e];exact zjd _ _
theorem zdm(ms:List Mt)(r:List zc):(tk ms r).map (·.2)=zdb ms r:=by
 unfold tk zdb;rw[List.map_filterMap]
 congr 1;funext m
 cases qd r m<;>rfl
theorem zj0{ms:List Mt}{r:List zc}:(tk ms r).length<=ms.length:=List.length_filterMap_le _ _
section
variable{kvs:Tab}{k k':List zc}{v:AV}
theorem Tab.at_some(h:k∈kvs.map (·.1)):(kvs.at k).isSome=true:=by
 unfold Tab.at;rw[Option.isSome_map,List.find?_isSome];refine zb (fG.mp h) λx hx e12_2=>?_;subst e12_2;exact zd x hx (by simp)
theorem Tab.wX(h:k∉kvs.map (·.1)):kvs.at k=none:=by
 unfold Tab.at;rw[Option.map_eq_none_iff,List.find?_eq_none];intro x hx e;exact h (fG.mpr (zd x hx (by simpa using e)))
theorem Tab.w7:(kvs.at k).isSome=decide (k∈kvs.map (·.1)):=by
 by_cases h:k∈kvs.map (·.1)
 .rw[Tab.at_some h,Hz h]
 .rw[Tab.wX h,Hy h];rfl
theorem Tab.vA(h:k∉kvs.map (·.1)):(kvs.put k v).map (·.1)=kvs.map (·.1)++[k]:=by
 unfold Tab.put;rw[Tab.wX h];simp
theorem Tab.vB(h:k∈kvs.map (·.1)):(kvs.put k v).map (·.1)=kvs.map (·.1):=by
 unfold Tab.put;rw[if_pos (Tab.at_some h),gA];apply gG;intro x _;simp only[Function.comp];split<;>rfl
theorem Tab.wV:(kvs.put k v).at k'=if k'=k then some v else kvs.at k':=by
 unfold Tab.put;split
 .rename_i hs
  induction kvs with
  | nil=>simp[Tab.at] at hs
  | cons x kvs ih=>
   unfold Tab.at at hs ih ⊢;rw[gM,pX,pX];rw[pX] at hs
   by_cases hx:x.1=k
   .rw[if_pos hx]
    by_cases hk:k'=k
    .rw[if_pos hk];simp[hx,hk]
    .rw[if_neg hk];have h1:decide (x.1=k')=false:=Hy λe=>hk (e.symm.trans hx);simp only[h1];clear hs ih
     induction kvs with
     | nil=>rfl
     | cons y kvs ih2=>
      rw[gM,pX,pX]
      by_cases hy:y.1=k
      .rw[if_pos hy];have h2:decide (y.1=k')=false:=Hy λe=>hk (e.symm.trans hy);simp only[h2];exact ih2
      .rw[if_neg hy]
       by_cases hy':y.1=k'
       .simp[hy']
       .simp only[Hy hy'];exact ih2
   .rw[if_neg hx]
    by_cases hx':x.1=k'
    .have hk:¬k'=k:=λe=>hx (hx'.trans e);rw[if_neg hk];simp[hx']
    .have h2:decide (x.1=k)=false:=Hy hx;simp only[h2] at hs;simp only[Hy hx'];exact ih hs
 .rename_i hs
  unfold Tab.at at hs ⊢;rw[List.find?_append]
  by_cases hk:k'=k
  .rw[if_pos hk];have:(kvs.find? λx=>decide (x.1=k'))=none:=by
    rw[hk];cases hf:kvs.find? λx=>decide (x.1=k) with
    | none=>rfl
    | some y=>rw[hf] at hs;exact absurd rfl hs
   rw[this];simp[hk]
  .rw[if_neg hk];have h1:decide (k=k')=false:=Hy λe=>hk e.symm;simp[pX,h1]
end
noncomputable abbrev zju(w:List (List zc)):Tab:=w.map λr=>(r,.bool true)
theorem zhP(w:List (List zc)):(zju w).map (·.1)=w:=by rw[gA];simp[Function.comp_def]
theorem zp8{w:List (List zc)}{b:List zc}(h:b∉w):(zju w).put b (.bool true)=zju (w++[b]):=by
 unfold Tab.put;rw[Tab.wX (by rw[zhP];exact h)];simp[zju]
theorem zts{ms:List Mt}{done rest:List (List zc)}{r b:List zc}(hs:(done++r::rest).Pairwise λx y=>x.length<=y.length)(hb:b∈done++r::rest)(hn:b∈jE ms r):b∈done:=by
 have hlt:=j6 hn
 rcases fS.mp hb with h|h
 .exact h
 .have h2:=(gF.mp hs).2.1
  rcases fM.mp h with rfl|h
  .exact absurd hlt (fBN _)
  .exact absurd ((gJ.mp h2).1 b h) (fDY.mpr hlt)
section
variable{P:Hk}{X:Cx}{n:Nat}{Q:zk}{Z:XP}{O:AHeap}
def Sub(O O':AHeap):Prop:=∀a o,O a=some o->O' a=some o
theorem Sub.put{O O':AHeap}{p:Addr}{o:AO}(e:Sub O O')(h:O p=none):Sub O (O'.set p o):=λa o' q=>by
 rw[AHeap.wB _ _ (by rintro rfl;rw[h] at q;cases q)];exact e a o' q
theorem Sub.none{O O':AHeap}(h:Sub O O'){p:Addr}(e:O' p=none):O p=none:=by
 cases q:O p with
 | none=>rfl
 | some o=>rw[h p o q] at e;exact absurd e (fN _)
theorem zh6(r:List zc):∀x∈r.map zT,Flat 1 x:=λx hx=>by refine zb (fG.mp hx) λm _ e0_2=>?_;subst e0_2;exact zgk m
theorem zgv{r:List zc}{R:Bool->AHeap->Prop}(q:R r.isEmpty O):eqG (zx r) (.tup []) R O:=zkk (zh6 r) (by decide) (by rw[List.isEmpty_map];exact q)
structure Reach(ms:List Mt)(g:List zc)(W:List (List zc)):Prop where
 self:g∈W
 closed:∀r∈W,∀b∈jE ms r,b∈W
 sub:∀r∈W,r.Sublist g
theorem zia{r:Bool}{xs:List (List zc)}(q:∀ys:List (List zc),ys.Perm xs->ys.Pairwise (λx y=>x.length<=y.length)->mkL r (ys.map zx) Q O):zci r (xs.map zx) Q O:=by
 have un:∃u:AV->List zc,∀x,u (zx x)=x:=⟨λv=>match v with
  | .tup l=>l.map λv=>match v with
   | .tup [.str s,.int k]=>(Nat.beq s 1,k)
   | _=>(false,0)
  | _=>[],λx=>by
   show (x.map zT).map _=x;rw[gA];refine(gG λm _=>?_).trans (fCF x);obtain⟨b,i⟩:=m;cases b<;>rfl⟩
 obtain⟨u,hu⟩:=un;unfold zci;refine⟨λv hv=>by refine zb (fG.mp hv) λx _ e3_2=>?_;subst e3_2;exact⟨_,rfl⟩,λys h1 h2=>?_⟩;obtain⟨p1,p2⟩:=zgr hu h1;rw[p2] at h2 ⊢;refine q _ p1 ?_;rw[fAD] at h2;refine h2.imp λ{a b} h=>?_;have e:∀x:List zc,zj1 (zx x)=x.length:=λx=>fC ..;rw[e,e] at h;exact h
noncomputable def tbL(g:List zc)(ms:List Mt)(rm rr:Addr)(k:Int)(a b c d e:Option AV):Loc:=[some (gAV g),some (.lst (ms.map z8)),some (zx g),some (.ref rm),some (.ref rr),some (.int k),a,b,c,d,e]
structure GrI(O:AHeap)(g:List zc)(ms:List Mt)(rm rr:Addr)(k:Int)(a b:Option AV)(xs w:List (List zc))(l:Loc)(O':AHeap):Prop where
 e:Sub O O'
 lr:O' rr=some (.list (w.map zx))
 lm:O' rm=some (.tdict (zju w))
 hl:∃c,l=tbL g ms rm rr k a b c none none
 wn:w.Nodup
 ws:∀r∈w,r.Sublist g
 hx:∀b∈xs,b.Sublist g
theorem zpy{d:Dp}{g:List zc}{ms:List Mt}{rm rr:Addr}{k:Int}{a b:Option AV}(hgl:g.length<=8)(hm:O rm=none)(hr:O rr=none)(hn:rr≠rm){x:List zc}{xs w:List (List zc)}{l:Loc}{O':AHeap}{I:AHeap->Prop}{K:Loc->AHeap->Prop}{S:zN}(hI:∀O,I O)
  (h:GrI O g ms rm rr k a b (x::xs) w l O')(hK:∀l' O',GrI O g ms rm rr k a b xs (if x∈w then w else w++[x]) l' O'->K l' O'):∃l',jP (.one 8) (zx x) l=some l'/\zbA X d l' (Gy I K S) Gz O':=by
 refine jo h.hl λc el=>?_;subst el;have hx:=fR.mp h.hx;have hw256:=zkT h.wn h.ws hgl;refine zd _ rfl ?_;refine zpD h.lm ?_;rw[Tab.w7,zhP]
 by_cases hw:x∈w
 .rw[if_pos hw] at hK;rw[Hz hw];exact⟨hI _,hK _ _ ⟨h.e,h.lr,h.lm,⟨_,rfl⟩,h.wn,h.ws,hx.2⟩⟩
 .rw[if_neg hw] at hK;rw[Hy hw];refine zep h.lm (by rw[fC];exact zv2 hw256) ?_;rw[zp8 hw];have lr3:=(AHeap.wB O' (.tdict (zju (w++[x]))) hn).trans h.lr;refine zL lr3 (zL lr3 (zV (by rw[fC];exact zy7 hw256) ?_));refine⟨hI _,hK _ _ ⟨(h.e.put hm).put hr,by rw[AHeap.wA,fW];rfl,by rw[AHeap.wB _ _ hn.symm,AHeap.wA],⟨_,rfl⟩,?_,?_,hx.2⟩⟩
  .exact gT.mpr ⟨h.wn,fT.mpr ⟨gQ,.nil⟩,λy hy z hz e=>hw (fP.mp hz▸e▸hy)⟩
  .exact λr h'=>(fS.mp h').elim (h.ws r) λh'=>fP.mp h'▸hx.1
structure LsI(O:AHeap)(g:List zc)(ms:List Mt)(rm rr rl:Addr)(k:Int)(ys xs b:List (List zc))(l:Loc)(O':AHeap):Prop where
 e:Sub O O'
 hy:b++xs=ys
 tb:∃kvs:Tab,O' rl=some (.tdict kvs)/\kvs.map (·.1)=b/\∀k∈b,Tab.at kvs k=some (.int (ku ms k))
 hl:∃a b c e,l=tbL g ms rm rr k a b c (some (.ref rl)) e
theorem zpX{d:Nat}(G:Gd X (hK P))(hd:d<561){g:List zc}{ms:List Mt}{rm rr rl:Addr}{k:Int}(hm:∀m∈ms,zlR m)(hml:ms.length<=100000)(h0:O rl=none){ys:List (List zc)}(hyn:ys.Nodup)(hyl:ys.length<=256)(hs:ys.Pairwise λx y=>x.length<=y.length)(hc:∀r∈ys,∀b∈jE ms r,b∈ys)(h8:∀r∈ys,r.length<=8)
  {r:List zc}{xs b:List (List zc)}{l:Loc}{O':AHeap}{I:AHeap->Prop}{K:Loc->AHeap->Prop}{S:zN}(hI:∀O,I O)(h:LsI O g ms rm rr rl k ys (r::xs) b l O')(hK:∀l' O',LsI O g ms rm rr rl k ys xs (b++[r]) l' O'->K l' O'):∃l',jP (.one 6) (zx r) l=some l'/\zed X ⟨d,false⟩ l' (Gy I K S) Gz O':=by
 refine zbO h.hl λa' b' c' c'' el=>?_;refine zj h.tb λkvs ll hk hv=>?_;subst el;have hy:=h.hy;have hry:r∈ys:=by rw[<-hy];exact gL _ fB
 have hrl:=h8 r hry;have hbl:b.length<=256:=by rw[<-hy,fF] at hyl;exact zzT hyl
 have hkl:kvs.length<=256:=by have:=congrArg List.length hk;rw[fC] at this;exact zAv hbl this
 have hnew:r∉b:=by
  rw[<-hy] at hyn;exact λh=>(gT.mp hyn).2.2 r h r fB rfl
 have hnew':r∉kvs.map (·.1):=by rw[hk];exact hnew
 have fin:∀σ2 (kv2:Tab) a b0 c c',Sub O σ2->σ2 rl=some (.tdict kv2)->kv2.map (·.1)=b++[r]->Tab.at kv2 r=some (.int (ku ms r))->(∀b,b≠r->Tab.at kv2 b=Tab.at kvs b)->I σ2/\K (tbL g ms rm rr k a b0 c (some (.ref rl)) c') σ2:=λσ2 kv2 a b0 c c' g1 g3 g4 g5 g6=>
  ⟨hI _,hK _ _ ⟨g1,by rw[gH];exact hy,zt kv2 g3 g4 (λz hz=>(fS.mp hz).elim (λh=>(g6 z λe=>hnew (e▸h)).trans (hv z h)) λh=>by rw[fP.mp h];exact g5),_,_,_,_,rfl⟩⟩
 have hav:∀b∈jE ms r,Tab.at (kvs.put r (.int 0)) b=some (.int (ku ms b)):=λc hb=>by
  have hcm:=hc r hry c hb;rw[<-hy] at hs hcm;have hbm:=zts hs hcm hb;rw[Tab.wV,if_neg λe:c=r=>hnew (e▸hbm)];exact hv c hbm
 have hl1:(kvs.put r (.int 0)).length<=300:=by have:=Tab.wW kvs r (.int 0);exact zAw hkl this
 have hk1:(kvs.put r (.int 0)).map (·.1)=b++[r]:=by rw[Tab.vA hnew',hk]
 have hat:∀b,b≠r->Tab.at (kvs.put r (.int 0)) b=Tab.at kvs b:=λb hb=>by rw[Tab.wV,if_neg hb]
 have hat0:Tab.at (kvs.put r (.int 0)) r=some (.int 0):=by rw[Tab.wV,if_pos rfl]
 refine zd _ rfl ?_;refine zep ll (zv2 hkl) ?_;have e6:Sub O (O'.set rl (.tdict (kvs.put r (.int 0)))):=h.e.put h0;have l6:(O'.set rl (.tdict (kvs.put r (.int 0)))) rl=some (.tdict (kvs.put r (.int 0))):=AHeap.wA ..;generalize O'.set rl (.tdict (kvs.put r (.int 0)))=σ6 at e6 l6;generalize kvs.put r (.int 0)=kv1 at hav hl1 hk1 hat hat0 l6;refine zgv ?_;cases r with
 | nil=>exact fin _ _ _ _ _ _ e6 l6 hk1 hat0 hat
 | cons x t=>
  refine zap G (gD hd (by decide)) (zv4 hrl) hm hml ?_;have htl:=zj0 (ms:=ms) (r:=x::t);refine js (λz=>.int (ku ms z.2)) (λ_=>rfl) (λ_ _=>rfl) (λz hz R q=>zbW l6 (hav _ (fA _ (by rw[<-zdm];exact gN hz))) q) trivial (zs5 hml htl) ?_;refine zbW (k:=t) l6 (hav t fB) ?_;refine zV (by rw[fC,fY];exact zwC hml htl) ?_;rw[show [AV.int (1+ku ms t)]++(tk ms (x::t)).map (λz=>AV.int (ku ms z.2))=((1+ku ms t)::(zdb ms (x::t)).map (ku ms)).map .int by rw[<-zdm,gA,gM,gA];rfl];refine zkE (λe=>nomatch e) λM hM1 hM2=>?_;have hMv:M=ku ms (x::t):=IsMin.vN ⟨hM1,hM2⟩ ((zkA ms).cons x t);subst hMv;refine zep l6 (zza hl1) ?_;exact fin _ _ _ _ _ _ (e6.put h0) (AHeap.wA ..) ((Tab.vB (by rw[hk1];exact gL _ fB)).trans hk1) (by rw[Tab.wV,if_pos rfl]) λb hb=>by rw[Tab.wV,if_neg hb];exact hat b hb
structure TbI(O:AHeap)(g:List zc)(ms:List Mt)(rm rr:Addr)(k:Nat)(O':AHeap):Prop where
 ht:Turns ms g k
 e:Sub O O'
 lr:O' rr=some (.list ((zG ms g k).map zx))
 lm:O' rm=some (.tdict (zju (zG ms g k)))
def TbJ(O:AHeap)(g:List zc)(ms:List Mt)(rm rr:Addr)(n:Nat)(l:Loc)(O':AHeap):Prop:=∃k:Nat,n=257-k/\TbI O g ms rm rr k O'/\∃a b c,l=tbL g ms rm rr k a b c none none
theorem zoT(G:Gd X (hK P))(hd:n<560){g:List zc}{ms:List Mt}(hgl:g.length<=8)(hm:∀m∈ms,zlR m)(hml:ms.length<=100000)
  (q:∀r kvs W,O r=none->Reach ms g W->(∀k∈W,Tab.at kvs k=some (.int (ku ms k)))->Q (.ref r) (O.set r (.tdict kvs))):CallOk X 154 ⟨n,false⟩ [gAV g,.lst (ms.map z8)] Q Z O:=by
 refine zpN G (gD hd (by decide)) λL=>?_;intro rm hrm;refine zt g rfl (AHeap.wA ..) ?_;intro rr hrr;rw[zdk] at hrr ⊢;have hrr0:O rr=none:=Sub.none (zQ hrm) hrr;have hnr:rr≠rm:=λe=>by rw[e,AHeap.wA] at hrr;exact absurd hrr (fN _)
 refine⟨TbJ O g ms rm rr,257,⟨0,rfl,⟨.zero,λa o h=>zQ hrr a o (zQ hrm a o h),AHeap.wA ..,by rw[AHeap.wB _ _ hnr.symm,AHeap.wA];rfl⟩,_,_,_,rfl⟩,?_⟩;intro N l' O' hR;refine zj hR λk eN H hR=>kq hR λa b c el=>?_;subst el eN;have hlen:(zG ms g k).length<=256:=zkT (qw k) (kO k) hgl;refine zi (zA H.lr) ?_;rw[fC];refine zcD (λhc=>?_) λhc=>?_
 .have hc:k<(zG ms g k).length:=fAI.mp (H0 hc);obtain⟨r,hr⟩:∃r,(zG ms g k)[k]? = some r:=⟨_,fJ hc⟩
  have hrm':r∈zG ms g k:=pT hr;have hrg:=kO k r hrm';have hrl:r.length<=8:=fE hrg.length_le hgl;refine jj H.lr (zi (jA hr) ?_);have tail:∀c {S:zN},(∀l σ2,GrI O g ms rm rr ((k:Int)+1) (some (zx r)) (some (.lst ((jE ms r).map zx))) [] (zG ms g (k+1)) l σ2->S .next l σ2)->zhd (λ_=>True) (.one 8) (zbA (X.push L)) ⟨n+1,false⟩ S ((jE ms r).map zx) (tbL g ms rm rr ((k:Int)+1) (some (zx r)) (some (.lst ((jE ms r).map zx))) c none none) O':=λc S q=>
   zH (g:=zx) (GrI O g ms rm rr ((k:Int)+1) (some (zx r)) (some (.lst ((jE ms r).map zx)))) (λw b=>if b∈w then w else w++[b]) (λx xs w l σ2 K S_ h hK=>zpy hgl hrm hrr0 hnr (λ_=>trivial) h hK) (b:=zG ms g k) (λl σ2 h=>q l σ2 (zao hr▸h)) ⟨H.e,H.lr,H.lm,⟨_,rfl⟩,qw k,kO k,λb hb=>((zcw hb).trans (List.tail_sublist _)).trans hrg⟩
  have fin:∀{S:zN},(∀l σ2,TbJ O g ms rm rr (257-(k+1)) l σ2->S .next l σ2)->∀l σ2,GrI O g ms rm rr ((k:Int)+1) (some (zx r)) (some (.lst ((jE ms r).map zx))) [] (zG ms g (k+1)) l σ2->S .next l σ2:=λq l σ2 h=>
   jo h.hl λc el=>q l σ2 ⟨k+1,rfl,⟨H.ht.succ hc,h.e,h.lr,h.lm⟩,_,_,_,el⟩
  have hlt:257-(k+1)<257-k:=zqZ (a:=256) (gP hc hlen);refine zgv ?_;cases r with
  | nil=>exact zd _ hlt ⟨k+1,rfl,⟨H.ht.succ hc,H.e,by rw[zao hr];exact H.lr,by rw[zao hr];exact H.lm⟩,_,_,_,rfl⟩
  | cons x t=>
   refine zap (G.push L) (zvZ hd) (zv4 hrl) hm hml ?_;have htl:=zj0 (ms:=ms) (r:=x::t);refine js (λz=>zx z.2) (λ_=>rfl) (λ_ _=>rfl) (λz hz R q=>q) trivial (zs5 hml htl) ?_;refine zV (by rw[fC,fY];exact zwC hml htl) ?_;have e8:[AV.tup (List.drop (Int.toNat 1) (List.map zT (x::t)))]++(tk ms (x::t)).map (λz=>zx z.2)=(jE ms (x::t)).map zx:=by
    show zx t::_=zx t::_;rw[<-zdm,gA];rfl
   rw[e8];refine tail c (fin ?_);exact λl σ2 h=>zd _ hlt h
 .have hE:End ms g k:=⟨H.ht,pE.mp λh=>of_decide_eq_false hc (fAI.mpr h)⟩
  intro rl hrl;have hrl0:=H.e.none hrl;have hlr:rr≠rl:=λe=>by rw[<-e,H.lr] at hrl;exact absurd hrl (fN _)
  refine zi (zA ((AHeap.wB _ _ hlr).trans H.lr)) ?_;refine zia λys hp hs=>?_;refine zH (g:=zx) (LsI O g ms rm rr rl k ys) (λb x=>b++[x]) (λr xs b l σ2 K S_ h hK=>zpX (G.push L) (fA3 hd) hm hml hrl0 (hp.nodup_iff.mpr (qw k)) (by rw[hp.length_eq];exact hlen) hs (λr hr b hb=>hp.mem_iff.mpr (hE.closed (hp.mem_iff.mp hr) hb)) (λr hr=>fE (kO k r (hp.mem_iff.mp hr)).length_le hgl) (λ_=>trivial) h hK) (b:=[]) (λl σ2 h=>?_) ⟨H.e.put hrl0,rfl,zt [] (AHeap.wA ..) rfl (λk hk=>nomatch hk),_,_,_,_,rfl⟩;rw[show ys.foldl (λb x=>b++[x]) []=ys by have:=zaJ (λx:List zc=>[x]) ys [];rw[this,fA6,List.flatMap_singleton']] at h;refine zbO h.hl λa' b' c' c'' el=>zj h.tb λkvs ll hk hv=>?_;subst el;refine Ends.drop (O':=O.set rl (.tdict kvs)) (λa o ho=>?_) (q rl kvs ys hrl0 ⟨hp.mem_iff.mpr ?_,λr hr b hb=>hp.mem_iff.mpr (hE.closed (hp.mem_iff.mp hr) hb),λr hr=>kO k r (hp.mem_iff.mp hr)⟩ hv)
  .by_cases ha:a=rl
   .rw[ha,AHeap.wA] at ho;rw[ha,ll,ho]
   .rw[AHeap.wB _ _ ha] at ho;exact h.e a o ho
  .refine jo (zcf (ms:=ms) (g:=g) (fV k)) λex e=>?_;rw[e];exact pH _ (fP.mpr rfl)
end
section
variable{P:Hk}{X:Cx}{n:Nat}{Q:zk}{Z:XP}{O:AHeap}
theorem zgl(m:Mt):Flat 2 (z8 m):=.tup λx hx=>by
 rcases fM.mp hx with rfl|hx
 .exact zfx m.1
 .rw[fP.mp hx];exact zfx m.2
theorem zqF(z:Mt×List zc):Flat 3 (zqE z):=.tup λx hx=>by
 rcases fM.mp hx with rfl|hx
 .exact zgl z.1
 .rw[fP.mp hx];exact .tup (zh6 z.2)
theorem zpo{xs:List AV}{k:Nat}{R:Bool->AHeap->Prop}(hf:∀x∈xs,Flat k x)(hk:k<100)(q:R xs.isEmpty O):eqG (.lst xs) (.lst []) R O:=by
 refine zdI (k:=k+1) (j:=1) (.lst hf) (.lst λx hx=>nomatch hx) hk (λh=>?_) λh=>?_
 .cases h;exact q
 .cases xs with
  | nil=>exact absurd rfl h
  | cons _ _=>exact q
noncomputable def kH(ms:List Mt)(r:List zc):List (Mt×List zc):=(tk ms r).filter λz=>decide (ku ms z.2=ku ms r)
noncomputable def pkF(ms:List Mt)(n:Nat)(r:List zc):List Mt:=match n,r with
 | 0,_=>[]
 | _+1,[]=>[]
 | n+1,x::t=>match kH ms (x::t) with
  | []=>pkF ms n t
  | z::_=>z.1::pkF ms n z.2
noncomputable def pk(ms:List Mt)(r:List zc):List Mt:=pkF ms r.length r
theorem qm{ms:List Mt}{r:List zc}{z:Mt×List zc}(h:z∈kH ms r):r≠[]/\z.2∈jE ms r/\z.1∈ms/\qd r z.1=some z.2:=by
 have h1:=(fU.mp h).1;refine zb (pU.mp h1) λm hm h2=>?_;refine zb (pY.mp h2) λb h3 e1_2=>?_;subst e1_2;cases r with
 | nil=>cases h3
 | cons x t=>exact zr (λe=>nomatch e) (fA _ (pU.mpr (zd m hm h3))) hm h3
theorem zsx(ms:List Mt):∀(n m:Nat) (r:List zc),r.length<=n->r.length<=m->pkF ms n r=pkF ms m r:=by
 intro n
 induction n with
 | zero=>intro m r h1 h2;rw[gZ.mp (fDC.mp h1)];cases m<;>rfl
 | succ n ih=>
  intro m r h1 h2;cases r with
  | nil=>cases m<;>rfl
  | cons x t=>
   cases m with
   | zero=>cases h2
   | succ m=>
    rw[fH] at h1 h2;unfold pkF;cases hg:kH ms (x::t) with
    | nil=>exact ih m t (zqX h1) (zqX h2)
    | cons z zs=>
     have h3:=j6 (qm (ms:=ms) (r:=x::t) (z:=z) (by rw[hg];exact fB)).2.1;rw[fH] at h3;dsimp only;rw[ih m z.2 (zq2 h1 h3) (zq2 h2 h3)]
theorem zjB(ms:List Mt):pk ms []=[]:=rfl
theorem zgs{ms:List Mt}{x:zc}{t:List zc}(h:kH ms (x::t)=[]):pk ms (x::t)=pk ms t:=by
 show pkF ms (t.length+1) (x::t)=_;unfold pkF;rw[h];rfl
theorem zgt{ms:List Mt}{x:zc}{t:List zc}{z:Mt×List zc}{zs:List (Mt×List zc)}(h:kH ms (x::t)=z::zs):pk ms (x::t)=z.1::pk ms z.2:=by
 have h3:=j6 (qm (ms:=ms) (r:=x::t) (z:=z) (by rw[h];exact fB)).2.1;show pkF ms (t.length+1) (x::t)=_;unfold pkF;rw[h];dsimp only;rw[zsx ms t.length z.2.length z.2 (zs0 h3) (fO _)];rfl
theorem zlX(G:Gd X (hK P))(hd:n<550){g:List zc}{ms:List Mt}(hgl:g.length<=8)(hm:∀m∈ms,zlR m)(hml:ms.length<=100000)(q:Q (.lst ((pk ms g).map z8)) O):CallOk X 159 ⟨n,false⟩ [gAV g,.lst (ms.map z8)] Q Z O:=by
 refine znN G (gD hd (by decide)) λL=>?_;refine zoT (G.push L) (zyR hd) hgl hm hml λrt kvs W hrt hW hkv=>?_;intro rf hrf;have hrf0:O rf=none:=Sub.none (zQ hrt) hrf;have hne:rt≠rf:=by rintro rfl;rw[AHeap.wA] at hrf;exact absurd hrf (fN _)
 have e0:Sub O ((O.set rt (.tdict kvs)).set rf (.list [])):=λa o h=>zQ hrf a o (zQ hrt a o h);have lt0:((O.set rt (.tdict kvs)).set rf (.list [])) rt=some (.tdict kvs):=by rw[AHeap.wB _ _ hne,AHeap.wA]
 have lf0:((O.set rt (.tdict kvs)).set rf (.list [])) rf=some (.list (([]:List Mt).map z8)):=AHeap.wA ..;generalize (O.set rt (.tdict kvs)).set rf (.list [])=O0 at e0 lt0 lf0;refine⟨λn l' O'=>∃(r:List zc) (fs:List Mt) (a5:Option AV),n=r.length/\Sub O O'/\O' rf=some (.list (fs.map z8))/\O' rt=some (.tdict kvs)/\r∈W/\fs++pk ms r=pk ms g/\fs.length+r.length<=8/\l'=[some (gAV g),some (.lst (ms.map z8)),some (.ref rt),some (zx r),some (.ref rf),a5],
  g.length,(zeT g [] _ rfl e0 lf0 lt0 hW.self rfl (by rw[pQ];exact zzb hgl) rfl),?_⟩
 clear e0 lt0 lf0;intro N l' O' hR1;refine zeQ hR1 λr fs a5 e0_3 e lf lt' hrW hpk hlen e0_10=>?_;subst e0_3;subst e0_10;refine zgv ?_;cases r with
 | nil=>
  rw[zjB,gU] at hpk;rw[<-hpk] at q;exact Ends.one e lf hrf0 q
 | cons x t=>
  refine zap (G.push L) (zyS hd) (by rw[fH];exact zzV hlen) hm hml ?_;have hnx:∀z∈tk ms (x::t),z.2∈jE ms (x::t):=λz hz=>fA _ (by rw[<-zdm];exact gN hz);have htl:=zj0 (ms:=ms) (r:=x::t);refine jH (λz=>decide (ku ms z.2=ku ms (x::t))) zqE (λ_=>rfl) (λ_ _=>rfl) (λz hz R q=>?_) (λz hz _ R q=>q) trivial (zs5 hml htl) ?_
  .refine zbW lt' (hkv _ (hW.closed _ hrW _ (hnx z hz))) ?_;refine zbW lt' (hkv _ hrW) ?_;exact q
  refine zpo (k:=3) (λy hy=>by refine zb (fG.mp hy) λz _ e2_2=>?_;subst e2_2;exact zqF z) (by decide) ?_;cases hg:kH ms (x::t) with
  | nil=>
   unfold kH at hg;rw[hg];exact zat t.length (by rw[fH];exact zo5) t fs _ rfl e lf lt' (hW.closed _ hrW t fB) (by rw[<-hpk,zgs hg]) (zzL hlen) rfl
  | cons z zs=>
   have hz:=qm (ms:=ms) (r:=x::t) (z:=z) (by rw[hg];exact fB);have h3:=j6 hz.2.1;have hps:=zgt hg;unfold kH at hg;rw[hg];refine zL lf ?_;refine zL lf ?_;refine zV (by rw[fC];exact zzK hlen) ?_;refine zat z.2.length (by rw[fH];exact zzZ h3) z.2 (fs++[z.1]) _ rfl (e.put hrf0) ?_ ?_ (hW.closed _ hrW _ hz.2.1) ?_ ?_ rfl
   .rw[AHeap.wA,fW];rfl
   .rw[AHeap.wB _ _ hne];exact lt'
   .rw[<-hpk,hps,gH];rfl
   .rw[fF,fY];exact zA2 hlen h3
end
section
variable{P:Hk}{X:Cx}{n:Nat}{Q:zk}{Z:XP}{O:AHeap}
structure Led where
 es:List Ent
 fs:List Ent
 span:Int
 tick:List Mt
 clos:List Mt
structure LA where
 self:Addr
 dx:Addr
 rd:Addr
 pb:Addr
 pk:Addr
 pt:Addr
 pc:Addr
noncomputable def zjo(a:LA)(D:Led):List (Nat×AV):=[(3,.int D.span),(4,.ref a.rd),(5,.ref a.pt),(6,.ref a.pc)]
structure LAt(O:AHeap)(a:LA)(D:Led):Prop where
 s:O a.self=some (.inst 240 a.dx)
 d:O a.dx=some (.idict (zjo a D))
 r:O a.rd=some (.idict [(0,.ref a.pb),(1,.ref a.pk)])
 b:O a.pb=some (.list (D.es.map zC))
 k:O a.pk=some (.list (D.fs.map zC))
 t:O a.pt=some (.list (D.tick.map z8))
 c:O a.pc=some (.list (D.clos.map z8))
 dr:a.dx≠a.rd
 nd:[a.pb,a.pk,a.pt,a.pc].Nodup
def zlQ(m:Mt):Prop:=SmM m/\m.1≠[]/\m.2≠[]
structure LOk(D:Led):Prop where
 es:EsOk D.es
 fs:EsOk D.fs
 few:D.es.length<=80/\D.fs.length<=80
 tick:∀m∈D.tick,zlQ m
 clos:∀m∈D.clos,zlQ m
 tl:D.tick.length<=1000
 cl:D.clos.length<=1000
noncomputable def Led.row(D:Led)(s:Bool):List Ent:=if s then D.fs else D.es
noncomputable def LA.row(a:LA)(s:Bool):Addr:=if s then a.pk else a.pb
noncomputable def Led.grps(D:Led):List (List zc):=Mine.Internal.grps D.es D.fs D.span
theorem LAt.row{a:LA}{D:Led}(h:LAt O a D)(s:Bool):O (a.row s)=some (.list ((D.row s).map zC)):=by
 cases s with
 | false=>exact h.b
 | true=>exact h.k
theorem zad{a:LA}{D:Led}(h:LAt O a D){s:Bool}(q:Q (.ref (a.row s)) O):zeS a.rd (.str s.toNat) Q O:=by
 refine zpC h.r ?_;cases s<;>exact q
theorem zeN(G:Gd X (hK P))(hd:n<570){a:LA}{D:Led}(h:LAt O a D)(ho:LOk D)(q:Q (.lst (D.grps.map gAV)) O):CallOk X 180 ⟨n,false⟩ [.ref a.self] Q Z O:=by
 refine zgb G (gD hd (by decide)) λL=>?_;refine zo h.s h.d ?_;refine zad (s:=false) h ?_;refine zo h.s h.d ?_;refine zad (s:=true) h ?_;refine zo h.s h.d ?_;refine zlq (G.push L) (zv0 hd) h.b h.k ho.es ho.fs ?_;exact Ends.same q
noncomputable def Led.holding(D:Led)(m:zc):List (List zc):=D.grps.filter λg=>decide (m∈g)
theorem grps_len{ts:List Tr}{span:Int}(b:List (List zc)×Option Int):(ts.foldl (jQ span) b).1.length<=b.1.length+ts.length:=by
 induction ts generalizing b with
 | nil=>exact fO _
 | cons t ts ih=>
  have h:(jQ span b t).1.length<=b.1.length+1:=by
   unfold jQ zR;dsimp only;split
   .rename_i hg
    split at hg<;>simp_all
   .rename_i g hg
    have:(if zbo span b.2 t.1 then b.1++[[]] else b.1).length<=b.1.length+1:=by split<;>simp
    rw[fF,List.length_dropLast,fY];have hne:(if zbo span b.2 t.1 then b.1++[[]] else b.1)≠[]:=λe=>by rw[e] at hg;cases hg
    have:=List.length_pos_iff.mpr hne;exact zAb (by assumption)
  have:=ih (jQ span b t);exact zC7 h this
theorem Led.grps_len{D:Led}(h:LOk D):D.grps.length<=10000:=by
 have h1:=Mine.Internal.grps_len (ts:=inO D.es D.fs) (span:=D.span) ([],none);have h2:=za7 D.es D.fs;have:=h.few;unfold Led.grps Mine.Internal.grps;exact zCL h1 h2 this
theorem zhf(G:Gd X (hK P))(hd:n<560){a:LA}{D:Led}(h:LAt O a D)(ho:LOk D){m:zc}{g:List zc}{gs:List (List zc)}(hg:D.holding m=g::gs)(q:Q (gAV g) O):CallOk X 223 ⟨n,false⟩ [.ref a.self,.str m.1.toNat,.int m.2] Q Z O:=by
 refine zjj G (gD hd (by decide)) λL=>?_;refine zo h.s h.d ?_;refine zeN (G.push L) (zvZ hd) h ho ?_;have:=Led.grps_len ho;refine jH (λg=>decide (m∈g)) gAV (λ_=>rfl) (λ_ _=>rfl) (λg _ R q=>?_) (λg _ _ R q=>q) trivial (zy3 this) ?_
 .exact inM (.inl rfl) q
 unfold Led.holding at hg;rw[hg];exact Ends.same q
theorem znf(G:Gd X (hK P))(hd:n<560){a:LA}{D:Led}(h:LAt O a D){s:Bool}{k:Nat}{e:Ent}(he:(D.row s)[k]? = some e)(q:Q (zC e) O):CallOk X 199 ⟨n,false⟩ [.ref a.self,.str s.toNat,.int k] Q Z O:=by
 refine zpM G (gD hd (by decide)) λL=>?_;refine zo h.s h.d ?_;refine zad h ?_
 conv=>whnf
 exact jj (h.row s) (zi (jA he) (Ends.same q))
theorem zjt{hb:Bool}(G:Gd X (hK P))(hd:n<560){a:LA}{D:Led}(h:LAt O a D)(ho:LOk D)(q:Q (.lst ((srt num D.tick).map z8)) O):CallOk X 206 ⟨n,hb⟩ [.ref a.self] Q Z O:=by
 refine zlA G (gD hd (by decide)) λL=>?_;refine zo h.s h.d ?_
 conv=>whnf
 refine zi (zA h.t) ?_;refine zeB (G.push L) (zyT hd) (λm hm=>(ho.tick m hm).1) ?_;exact Ends.same q
noncomputable def Led.told(D:Led):List zc:=D.tick.flatMap ze
noncomputable def Led.left(D:Led)(s:Bool):List Nat:=(List.range (D.row s).length).filter λi=>!decide ((s,(i:Int))∈D.told)
theorem zlO{m:Mt}(h:SmM m):(ze m).length<=6:=by
 unfold ze;rw[fF,fC,fC];have h1:m.1.length<=3:=h.1.1;have h2:m.2.length<=3:=h.2.1;exact zAe h1 h2
theorem zgd(G:Gd X (hK P))(hd:n<560){a:LA}{D:Led}(h:LAt O a D)(ho:LOk D){s:Bool}(q:Q (.lst ((D.left s).map λi:Nat=>.int i)) O):CallOk X 218 ⟨n,false⟩ [.ref a.self,.str s.toNat] Q Z O:=by
 refine zsf G (gD hd (by decide)) λL=>?_;have htl:=ho.tl;refine zo h.s h.d ?_
 conv=>whnf
 refine zi (zA h.t) ?_;refine zH (g:=z8) (λxs b l O'=>O=O'/\(∃u,l=[some (.ref a.self),some (.str s.toNat),some (.lst (b.map zT)),u])/\b.length+6*xs.length<=6000/\∀m∈xs,m∈D.tick) (λb m=>b++ze m) ?_ (b:=[]) ?_ (zr rfl ⟨_,rfl⟩ (by rw[pQ];exact zEW htl) (λm hm=>hm))
 .rintro m xs b l O' K S_ ⟨rfl,⟨u,rfl⟩,hl,hx⟩ hK;rw[fH] at hl;have hm:=(ho.tick m (hx m fB)).1;have hml:=zlO hm;have h1:m.1.length<=3:=hm.1.1;have h2:m.2.length<=3:=hm.2.1;refine zd _ rfl ?_;refine kj (G.push L) (zyU hd) (zmC h1) (zmC h2) ?_;refine zV (by rw[fC,fC];exact zE0 hl hml) ?_;rw[<-fW];exact⟨h.t,hK _ _ (zr rfl ⟨_,rfl⟩ (by rw[fF];exact zEZ hl hml) (λy hy=>hx y (fA _ hy)))⟩
 .rintro l O' ⟨rfl,⟨u,rfl⟩,_,_⟩;rw[zaJ,fA6];refine zo h.s h.d ?_;refine zad h ?_;refine zi (zA (h.row s)) ?_;rw[fC];have hrl:(D.row s).length<=80:=by
   cases s with
   | false=>exact ho.few.1
   | true=>exact ho.few.2
  refine zel (zv5 hrl) ?_;refine jH (λi:Nat=>!decide ((s,(i:Int))∈D.told)) (λi:Nat=>.int i) (λ_=>rfl) (λ_ _=>rfl) (λi _ R q=>?_) (λi _ _ R q=>q) trivial (by rw[gY];exact zv5 hrl) ?_
  .exact inM (m:=(s,(i:Int))) (ms:=D.told) (.inl rfl) q
  .exact Ends.same q
end
section
variable{P:Hk}{X:Cx}{n:Nat}{Q:zk}{Z:XP}{O:AHeap}
theorem zkp{J β:Type}{f:J->List β}{c:Nat}{l:List J}(h:∀a∈l,(f a).length<=c):(l.flatMap f).length<=l.length*c:=by
 induction l with
 | nil=>exact fV _
 | cons a l ih=>
  rw[fAP,fF,fH,fB1];have:=h a fB;have:=ih λb hb=>h b (fA _ hb);exact zCO (by assumption) this
theorem zqN{es fs:List Ent}{span:Int}{g:List zc}(h:g.length<=8):(win es fs span g).length<=20480:=by
 unfold win;rw[(zU ..).length_eq];refine fE (zkp (c:=4096) λz hz=>?_) (by decide);have hzl:∀z∈szs,8 ^ z.1*8 ^ z.2<=4096:=by decide
 refine fE (zkp (c:=8 ^ z.2) λl hl=>?_) (fE (pI _ (kP (zdn h) z.1)) (hzl z hz));unfold qe;rw[fC];exact fE (fAG ..) (kP (zdn h) z.2)
noncomputable def zZ(m:Mt):zc:=(ze m).headD (false,0)
noncomputable def Led.pick(D:Led)(g:List zc):Led:={ D with tick:=(D.tick.filter λm=>!decide (zZ m∈g))++pk ((win D.es D.fs D.span g).filter λm=>!decide (m∈D.clos)) g }
theorem LAt.ticks{a:LA}{D:Led}(h:LAt O a D){p:Addr}(hp:O p=none)(tk:List Mt):LAt ((O.set p (.list (tk.map z8))).set a.dx (.idict (zjo { a with pt:=p } D))) { a with pt:=p } { D with tick:=tk }:=by
 have ne:∀{q:Addr} {o:AO},O q=some o->q≠p:=λe q=>by rw[q,hp] at e;exact absurd (Eq.symm e) (fN _)
 have nd:∀{q:Addr} {xs:List AV},O q=some (.list xs)->q≠a.dx:=λe q=>by rw[q,h.d] at e;cases e
 have hdp:a.dx≠p:=ne h.d;have hsd:a.self≠a.dx:=λq=>by have:=h.s;rw[q,h.d] at this;cases this
 have st:∀{q:Addr} {o:AO},O q=some o->q≠a.dx->((O.set p (.list (tk.map z8))).set a.dx (.idict (zjo { a with pt:=p } D))) q=some o:=λe hq=>by rw[AHeap.wB _ _ hq,AHeap.wB _ _ (ne e)];exact e
 obtain⟨n1,n2⟩:=fT.mp h.nd;obtain⟨n3,n4⟩:=fT.mp n2;obtain⟨n5,n6⟩:=fT.mp n4;refine⟨st h.s hsd,AHeap.wA ..,st h.r h.dr.symm,st h.b (nd h.b),st h.k (nd h.k),?_,st h.c (nd h.c),h.dr,?_⟩
 .rw[AHeap.wB _ _ (Ne.symm hdp)];exact AHeap.wA ..
 .show [a.pb,a.pk,p,a.pc].Nodup;have e1:=ne h.b;have e2:=ne h.k;have e3:=ne h.c;simp only[fT,fM,gQ,or_false,not_or,not_false_eq_true,List.nodup_nil,and_true] at n1 n3 n5 ⊢;exact zp (zp n1.1 e1 n1.2.2) ⟨e2,n3.2⟩ e3.symm
theorem zc3{a:LA}{D:Led}{p:Addr}(hp:O p=none)(tk:List Mt){x:Addr}{o:AO}(hx:x≠a.dx)(e:O x=some o):((O.set p (.list (tk.map z8))).set a.dx (.idict (zjo { a with pt:=p } D))) x=some o:=by
 rw[AHeap.wB _ _ hx,AHeap.wB _ _ (by rintro rfl;rw[hp] at e;cases e)];exact e
theorem zoe{m m':Mt}(h:z8 m=z8 m'):m=m':=by
 obtain⟨a,b⟩:=m;obtain⟨c,d⟩:=m';have inj:∀{l r:List Int},l.map AV.int=r.map AV.int->l=r:=λ{l r} e=>by
  have:=congrArg (List.map unI) e;rw[gA,gA] at this;have hi:unI∘AV.int=id:=rfl;rw[hi,fCF,fCF] at this;exact this
 unfold z8 at h;injection h with h
 injection h with h1 h2
 injection h2 with h2 _
 injection h1 with h1
 injection h2 with h2
 have e1:a=c:=inj h1;have e2:b=d:=inj h2;subst e1 e2;rfl
theorem zn9{m:Mt}{ms:List Mt}:z8 m∈ms.map z8↔m∈ms:=⟨λh=>by refine zb (fG.mp h) λx h1 h2=>?_;rw[<-zoe h2];exact h1,λh=>gN h⟩
theorem zx0{m:Mt}{ms:List Mt}{p:Addr}{R:Bool->AHeap->Prop}(hp:O p=some (.list (ms.map z8)))(q:R (decide (m∈ms)) O):inR (z8 m) p R O:=by
 refine znx hp (zgl m) (λy hy=>?_) (by decide) (λh=>?_) λh=>?_
 .refine zb (fG.mp hy) λx _ e6_2=>?_;subst e6_2;exact zgl x
 .rw[zn9] at h;rw[Hz h] at q;exact q
 .rw[zn9] at h;rw[Hy h] at q;exact q
theorem zo3{es fs:List Ent}{span:Int}{g:List zc}(hg:GOk g es.length fs.length){m:Mt}(h:m∈win es fs span g):zlQ m:=by
 refine qa (ziK hg ((zU ..).mem_iff.mp h)) λh1 _ _ h2 _=>?_;refine(zp h1 (λe=>?_) (λe=>?_))<;>rw[e,pQ] at h2<;>simp at h2
theorem ztL{m:Mt}(h:zlQ m):zlR m:=⟨fBU h.1.1.1,fBU h.1.2.1⟩
theorem zoo(ms:List Mt)(r:List zc):(pk ms r).length<=r.length:=by
 have gen:∀n r,(pkF ms n r).length<=n:=λn=>by
  induction n with
  | zero=>intro r;exact fO 0
  | succ n ih=>
   intro r;cases r with
   | nil=>exact fV _
   | cons x t=>
    unfold pkF;split
    .exact fBU (ih t)
    .exact gW (ih _)
 exact gen _ _
theorem zql(G:Gd X (hK P))(hd:n<540){a:LA}{D:Led}(h:LAt O a D)(ho:LOk D){g:List zc}(hg:GOk g D.es.length D.fs.length)
  (q:∀O' pt',(∀x o,x≠a.dx->O x=some o->O' x=some o)->O pt'=none->LAt O' { a with pt:=pt' } (D.pick g)->Q .none O'):CallOk X 185 ⟨n,false⟩ [.ref a.self,gAV g] Q Z O:=by
 refine zsg G (gD hd (by decide)) λL=>?_;have htl:=ho.tl
 conv=>whnf
 refine zo h.s h.d ?_
 conv=>whnf
 refine zi (zA h.t) ?_;refine jH (λm=>!decide (zZ m∈g)) z8 (λ_=>rfl) (λ_ _=>rfl) (λm hm R q=>?_) (λm hm _ R q=>q) h.t (ziF htl) ?_
 .have hgo:=ho.tick m hm;have h1:m.1.length<=3:=hgo.1.1.1;have h2:m.2.length<=3:=hgo.1.2.1;refine kj (G.push L) (zyQ hd) (zmC h1) (zmC h2) ?_;unfold zZ at q;cases hmm:ze m with
  | nil=>
   exfalso;have:=congrArg List.length hmm;unfold ze at this;rw[fF,fC,pQ] at this;exact hgo.2.1 (gZ.mp (zwi this))
  | cons x t=>
   rw[hmm] at q;exact inM (.inl rfl) q
 intro p1 hp1;refine zo ((zQ hp1) _ _ h.s) ((zQ hp1) _ _ h.d) ?_;have h1:=h.ticks hp1 (D.tick.filter λm=>!decide (zZ m∈g));have fr1:=λx o (hx:x≠a.dx) e=>zc3 (a:=a) (D:=D) hp1 (D.tick.filter λm=>!decide (zZ m∈g)) (x:=x) (o:=o) hx e;refine qZ rfl ?_;have ef:jx (zjo a D) 5 (.ref p1)=zjo { a with pt:=p1 } D:=rfl;rw[ef];generalize (O.set p1 (.list ((D.tick.filter λm=>!decide (zZ m∈g)).map z8))).set a.dx (.idict (zjo { a with pt:=p1 } D))=σ1 at h1 fr1 ⊢;refine zo h1.s h1.d ?_;refine zad (s:=false) h1 ?_;refine zo h1.s h1.d ?_;refine zad (s:=true) h1 ?_;refine zo h1.s h1.d ?_;refine zmB (G.push L) (zyP hd) h1.b h1.k ho.es ho.fs hg ?_;refine zo h1.s h1.d ?_;have hwl:=zqN (es:=D.es) (fs:=D.fs) (span:=D.span) hg.few;refine jH (λm=>!decide (m∈D.clos)) z8 (λ_=>rfl) (λ_ _=>rfl) (λm hm R q=>?_) (λm hm _ R q=>q) trivial (by lia) ?_
 .refine zo h1.s h1.d ?_;exact zx0 h1.c q
 refine zlX (G.push L) (zyO hd) hg.few (λm hm=>ztL (zo3 hg (fU.mp hm).1)) (fE (fAG ..) (by lia)) ?_;refine zi (zA h1.t) ?_;have hpl:=zoo ((win D.es D.fs D.span g).filter λm=>!decide (m∈D.clos)) g;have hfl:=fAG (λm=>!decide (zZ m∈g)) D.tick;have hgf:=hg.few;refine zV (by rw[fC,fC];dsimp only;exact zC1 htl hpl hfl hgf) ?_;intro p2 hp2;refine zo ((zQ hp2) _ _ h1.s) ((zQ hp2) _ _ h1.d) ?_;rw[<-fW];have h2:=h1.ticks hp2 ((D.tick.filter λm=>!decide (zZ m∈g))++pk ((win D.es D.fs D.span g).filter λm=>!decide (m∈D.clos)) g);refine Ends.same (q _ p2 (λx o hx e=>zc3 hp2 _ hx (fr1 x o hx e)) ?_ h2);cases e:O p2 with
 | none=>rfl
 | some o=>
  by_cases hx:p2=a.dx
  .rw[hx] at hp2;have:=h1.d;rw[hp2] at this;exact absurd (Eq.symm this) (fN _)
  .rw[fr1 p2 o hx e] at hp2;exact absurd hp2 (fN _)
end
section
variable{P:Hk}{X:Cx}{n:Nat}{Q:zk}{Z:XP}{O:AHeap}
theorem zmJ{gs:List (List zc)}(h:gs≠[])(m:zc):(zR gs m).flatten=gs.flatten++[m]:=by
 obtain⟨g0,g,rfl⟩:∃g0 g,gs=g0++[g]:=(jL _ _ ((fAZ h).symm))
 rw[jG];simp
theorem zrL{gs:List (List zc)}(h:gs≠[])(m:zc):zR gs m≠[]:=by
 obtain⟨g0,g,rfl⟩:∃g0 g,gs=g0++[g]:=(jL _ _ ((fAZ h).symm))
 rw[jG];simp
theorem zi6{span:Int}(ts:List Tr)(b:List (List zc)×Option Int)(hb:b.2=none\/b.1≠[]):(ts.foldl (jQ span) b).1.flatten=b.1.flatten++ts.map (·.2):=by
 induction ts generalizing b with
 | nil=>exact(gU _).symm
 | cons t ts ih=>
  rw[pM];have hne:(if zbo span b.2 t.1 then b.1++[[]] else b.1)≠[]:=by
   split
   .simp
   .rename_i ho
    exact hb.resolve_left λe=>ho (by rw[e];rfl)
  have hfl:(if zbo span b.2 t.1 then b.1++[[]] else b.1).flatten=b.1.flatten:=by split<;>simp
  rw[ih _ (.inr (zrL hne _))];unfold jQ;dsimp only;rw[zmJ hne,hfl,gM,gH];rfl
theorem qL(es fs:List Ent)(span:Int):(grps es fs span).flatten=(inO es fs).map (·.2):=by
 unfold grps;rw[zi6 _ _ (.inl rfl)];rfl
theorem zc1(s:Bool)(es:List Ent):((km s es).map (·.2)).Nodup:=by
 unfold km;rw[gA];refine qY fDM λa _ b _ e=>?_;have:=congrArg Prod.snd e;exact Int.ofNat.inj this
theorem ziJ(es fs:List Ent):((zbh es fs).map (·.2)).Nodup:=by
 unfold zbh;rw[fW,gT];refine zp (zc1 _ _) (zc1 _ _) (λa ha b hb e=>?_);refine zb (fG.mp ha) λx hx e0_2=>?_;subst e0_2;refine zb (fG.mp hb) λy hy e1_2=>?_;subst e1_2;refine zb (fG.mp hx) λi _ e2_2=>?_;subst e2_2;refine zb (fG.mp hy) λj _ e3_2=>?_;subst e3_2;cases e
theorem zcq(es fs:List Ent):((inO es fs).map (·.2)).Nodup:=((zU zay (zbh es fs)).map _).nodup_iff.mpr (ziJ es fs)
theorem mem_inO{es fs:List Ent}{m:zc}:m∈(inO es fs).map (·.2)↔∃k:Nat,m.2=k/\k<(if m.1 then fs else es).length:=by
 obtain⟨b,i⟩:=m;constructor
 .intro h;refine zb (fG.mp h) λt ht e=>?_;have ht:=inO_mem.mp ht
  rcases fS.mp ht with h|h<;>obtain⟨k,hk,rfl⟩:=fG.mp h<;>cases e<;>exact zd k rfl (gV.mp hk)
 .intro hR1;obtain⟨k,hk,hl⟩:=hR1;cases hk;cases b with
  | false=>exact fG.mpr (zd _ (inO_mem.mpr (pH _ (fG.mpr (zd k (gV.mpr hl) rfl)))) rfl)
  | true=>exact fG.mpr (zd _ (inO_mem.mpr (gL _ (fG.mpr (zd k (gV.mpr hl) rfl)))) rfl)
theorem kr{J:Type}{gs:List (List J)}(h:gs.flatten.Nodup){g:List J}(hg:g∈gs):g.Nodup:=List.Nodup.sublist (fBV hg) h
theorem zkq{es fs:List Ent}{span:Int}{g:List zc}(hg:g∈grps es fs span)(h8:g.length<=8)(hs:es.length<=80/\fs.length<=80):GOk g es.length fs.length:=by
 have hfl:=qL es fs span;refine⟨kr (by rw[hfl];exact zcq es fs) hg,λm hm=>?_,h8,hs⟩;have:m∈(inO es fs).map (·.2):=by rw[<-hfl];exact pG.mpr (zd g hg hm)
 refine zb (mem_inO.mp this) λk h1 h2=>?_;rw[h1];cases hb:m.1<;>rw[hb] at h2<;>simp only[gC,if_false,if_true] at h2 ⊢<;>exact zwp h2
theorem zja(D:Led){m:zc}{k:Nat}(hk:m.2=k)(hl:k<(D.row m.1).length):∃g gs,D.holding m=g::gs/\g∈D.grps/\m∈g:=by
 have:m∈D.grps.flatten:=by
  unfold Led.grps;rw[qL];exact mem_inO.mpr (zd k hk hl)
 refine zb (pG.mp this) λg h1 h2=>?_;have hm:g∈D.holding m:=fU.mpr ⟨h1,Hz h2⟩;cases hh:D.holding m with
 | nil=>rw[hh] at hm;cases hm
 | cons g' gs=>
  have hg':g'∈D.holding m:=by rw[hh];exact fB
  exact zI g' gs rfl ((fU.mp hg').1) (H0 (fU.mp hg').2)
noncomputable def Led.add(D:Led)(s:Bool)(e:Ent):Led:=match s with
 | false=>{ D with es:=D.es++[e] }
 | true=>{ D with fs:=D.fs++[e] }
theorem zpe(D:Led)(s:Bool)(e:Ent):(D.add s e).row s=D.row s++[e]:=by cases s<;>rfl
theorem zha{es:List Ent}(h:EsOk es){e:Ent}(he:zaM e.1 e.2=true)(hl:es.length<1000):EsOk (es++[e]):=by
 unfold zaM at he;simp only[gX,decide_eq_true_eq,fBQ] at he;obtain⟨⟨⟨⟨h1,h2⟩,h3⟩,h4⟩,_⟩:=he;refine⟨λx hx=>?_,λx hx=>?_,by rw[fF,fY];exact zyH hl⟩
 .rcases fS.mp hx with h'|h'
  .exact h.day x h'
  .rw[fP.mp h'];exact⟨h1,h2⟩
 .rcases fS.mp hx with h'|h'
  .exact h.cents x h'
  .rw[fP.mp h'];lia
theorem zkz{D:Led}(h:LOk D){s:Bool}{e:Ent}(he:zaM e.1 e.2=true)(hl:(D.row s).length<80):LOk (D.add s e):=by
 have hf:=h.few;cases s with
 | false=>exact⟨zha h.es he (zzx hf),h.fs,⟨by show (D.es++[e]).length<=80;rw[fF,fY];exact hl,hf.2⟩,h.tick,h.clos,h.tl,h.cl⟩
 | true=>exact⟨h.es,zha h.fs he (zzy hf),⟨hf.1,by show (D.fs++[e]).length<=80;rw[fF,fY];exact hl⟩,h.tick,h.clos,h.tl,h.cl⟩
theorem LAt.add{a:LA}{D:Led}(h:LAt O a D)(s:Bool)(e:Ent):LAt (O.set (a.row s) (.list (((D.row s)++[e]).map zC))) a (D.add s e):=by
 have nd:∀{q:Addr} {o:AO},O q=some o->(∀xs,o≠.list xs)->q≠a.row s:=λeq hq q=>by rw[q,h.row s] at eq;obtain rfl:=Hx eq;exact hq _ rfl
 obtain⟨n1,n2⟩:=fT.mp h.nd;obtain⟨n3,n4⟩:=fT.mp n2;simp only[fM,gQ,or_false,not_or] at n1 n3;have e1:O.set (a.row s) (.list (((D.row s)++[e]).map zC)) a.self=_:=(AHeap.wB _ _ (nd h.s (λ_ q=>nomatch q))).trans h.s;have e2:O.set (a.row s) (.list (((D.row s)++[e]).map zC)) a.dx=_:=(AHeap.wB _ _ (nd h.d (λ_ q=>nomatch q))).trans h.d;have e3:O.set (a.row s) (.list (((D.row s)++[e]).map zC)) a.rd=_:=(AHeap.wB _ _ (nd h.r (λ_ q=>nomatch q))).trans h.r;cases s with
 | false=>exact⟨e1,e2,e3,AHeap.wA ..,(AHeap.wB _ _ (Ne.symm n1.1)).trans h.k,(AHeap.wB _ _ (Ne.symm n1.2.1)).trans h.t,(AHeap.wB _ _ (Ne.symm n1.2.2)).trans h.c,h.dr,h.nd⟩
 | true=>exact⟨e1,e2,e3,(AHeap.wB _ _ n1.1).trans h.b,AHeap.wA ..,(AHeap.wB _ _ (Ne.symm n3.1)).trans h.t,(AHeap.wB _ _ (Ne.symm n3.2)).trans h.c,h.dr,h.nd⟩
theorem zoH{p:Addr}{o o':AO}(h:O p=some o):(O.set p o').set p o=O:=by
 funext b
 by_cases hb:b=p
 .subst hb;rw[AHeap.wA,h]
 .rw[AHeap.wB _ _ hb,AHeap.wB _ _ hb]
theorem zey:∀y∈[AV.str 0,AV.str 1],Flat 0 y:=λy hy=>by
 rcases fM.mp hy with rfl|hy
 .exact .str (by decide)
 .rw[fP.mp hy];exact .str (by decide)
theorem znA{s:Bool}{R:Bool->AHeap->Prop}(q:R true O):inG (.str s.toNat) (.tup [.str 0,.str 1]) R O:=by
 have hs:AV.str s.toNat∈[AV.str 0,AV.str 1]:=by
  cases s with
  | false=>exact fB
  | true=>exact fA _ fB
 exact zdT (xs:=[.str 0,.str 1]) (.inr rfl) (zey _ hs) zey (by decide) (λ_=>q) λhn=>absurd hs hn
theorem zsA(G:Gd X (hK P))(hd:n<520){a:LA}{D:Led}(h:LAt O a D)(ho:LOk D){s:Bool}{e:Ent}(he:zaM e.1 e.2=true)(hl:(D.row s).length<80){g:List zc}{gs:List (List zc)}(hg:(D.add s e).holding (s,((D.row s).length:Int))=g::gs)
  (h8:g.length<=8)(q:∀O' pt',(∀x o,x≠a.dx->x≠a.row s->O x=some o->O' x=some o)->O pt'=none->LAt O' { a with pt:=pt' } ((D.add s e).pick g)->Q (.int (D.row s).length) O') :
  CallOk X 192 ⟨n,false⟩ [.ref a.self,.str s.toNat,.int e.1,.int e.2] Q Z O:=by
 refine ztX G (gD hd (by decide)) λL=>?_;refine znA ?_;refine zht (G.push L) (zyN hd) ?_;rw[he];refine zo h.s h.d ?_;refine zad h ?_;refine zL (h.row s) ?_;refine zL (h.row s) ?_;refine zV (by rw[fC];exact zyX hl) ?_;have h1:=h.add s e;have ho1:=zkz ho he hl;have hr1:(O.set (a.row s) (.list (((D.row s)++[e]).map zC))) (a.row s)=some (.list ((D.row s).map zC++[zC e])):=by rw[AHeap.wA,fW];rfl
 have fr1:∀x o,x≠a.row s->O x=some o->(O.set (a.row s) (.list (((D.row s)++[e]).map zC))) x=some o:=λx o hx ex=>(AHeap.wB _ _ hx).trans ex;have bk:(O.set (a.row s) (.list (((D.row s)++[e]).map zC))).set (a.row s) (.list ((D.row s).map zC))=O:=zoH (h.row s);have nn:∀x,(O.set (a.row s) (.list (((D.row s)++[e]).map zC))) x=none->O x=none:=λx hx=>by
  by_cases hxr:x=a.row s
  .rw[hxr,AHeap.wA] at hx;exact absurd hx (fN _)
  .rw[AHeap.wB _ _ hxr] at hx;exact hx
 have eL:(D.row s).map zC++[zC e]=((D.row s)++[e]).map zC:=by rw[fW];rfl
 rw[show AV.tup [AV.int e.1,AV.int e.2]=zC e from rfl,eL];unfold A.w9;generalize O.set (a.row s) (.list (((D.row s)++[e]).map zC))=σ1 at h1 hr1 fr1 bk nn ⊢;refine zo h1.s h1.d ?_;refine zi (zA hr1) ?_;have el:(((D.row s).map zC++[zC e]).length:Int)-1=(D.row s).length:=by rw[fF,fC,fY];exact zsT
 conv=>whnf
 rw[el];refine zhf (m:=(s,((D.row s).length:Int))) (G.push L) (zyM hd) h1 ho1 hg ?_
 conv=>whnf
 rw[fC];refine zdw (Hy λh=>pE.mpr h8 (fAI.mp h)) ?_;have hgm:g∈(D.add s e).grps:=by
  have:g∈(D.add s e).holding (s,((D.row s).length:Int)):=by rw[hg];exact fB
  exact(fU.mp this).1
 refine zo h1.s h1.d ?_;refine zql (G.push L) (zyL hd) h1 ho1 (zkq hgm h8 ho1.few) λσ2 pt' fr2 hp2 h2=>?_;have hr2:σ2 (a.row s)=some (.list ((D.row s).map zC++[zC e])):=fr2 _ _ (λq=>by rw[q,h1.d] at hr1;cases hr1) hr1;refine zi (zA hr2) ?_
 conv=>whnf
 rw[el];exact Ends.same (q σ2 pt' (λx o hx hx' ex=>fr2 x o hx (fr1 x o hx' ex)) (nn _ hp2) h2)
end
section
variable{P:Hk}{X:Cx}{n:Nat}{Q:zk}{Z:XP}{O:AHeap}
noncomputable def znw(i:Int):Bool:=decide (0<=i)&&decide (i<=30)
theorem zro{O:AHeap}{p q:Addr}{o:AO}(h:O q=some o)(hp:O p=none):q≠p:=λe=>by rw[e,hp] at h;exact absurd (Eq.symm h) (fN _)
theorem zd0{O:AHeap}{p q:Addr}{o o':AO}(h:O q=some o)(hp:O p=none):O.set p o' q=some o:=(AHeap.wB _ _ (zro h hp)).trans h
theorem zpO{O:AHeap}{p q:Addr}{o o':AO}(h:O q=some o)(hp:q≠p):O.set p o' q=some o:=(AHeap.wB _ _ hp).trans h
noncomputable def LA.all(a:LA):List Addr:=[a.self,a.dx,a.rd,a.pb,a.pk,a.pt,a.pc]
structure Lay(O O':AHeap)(ps:List (Addr×AO)):Prop where
 sub:Sub O O'
 here:∀p∈ps,O' p.1=some p.2
 new:∀p∈ps,O p.1=none
 nd:(ps.map Prod.fst).Nodup
theorem Lay.add{O O':AHeap}{ps:List (Addr×AO)}{p:Addr}{o:AO}(h:Lay O O' ps)(hp:O' p=none):Lay O (O'.set p o) ((p,o)::ps):=by
 have hn:=h.sub.none hp;refine⟨h.sub.put hn,fR.mpr ⟨AHeap.wA ..,λq hq=>zd0 (h.here q hq) hp⟩,fR.mpr ⟨hn,h.new⟩,fT.mpr ⟨λhm=>?_,h.nd⟩⟩;refine zb (fG.mp hm) λq hq e=>?_;have:=h.here q hq;rw[e] at this;exact zro this hp rfl
theorem Lay.upd{O O':AHeap}{p:Addr}{o o':AO}(ps rs:List (Addr×AO))(h:Lay O O' (ps++(p,o)::rs)):Lay O (O'.set p o') (ps++(p,o')::rs):=by
 have hm:∀{q:Addr×AO},q∈ps++(p,o')::rs->q=(p,o')\/q∈ps++(p,o)::rs/\q.1≠p:=λ{q} hq=>by
  have nd:=h.nd;rw[fW,gM] at nd;have nd:=gT.mp nd
  rcases fS.mp hq with hq|hq
  .exact .inr ⟨pH _ hq,λe=>nd.2.2 _ (gN hq) _ fB e⟩
  .rcases fM.mp hq with hq|hq
   .exact .inl hq
   .exact .inr ⟨gL _ (fA _ hq),λe=>(fT.mp nd.2.1).1 (show p∈rs.map Prod.fst from e▸gN (f:=Prod.fst) hq)⟩
 have hp:O p=none:=h.new (p,o) (gL _ fB);refine⟨h.sub.put hp,λq hq=>?_,λq hq=>?_,by have:=h.nd;rw[fW] at this ⊢;exact this⟩
 .rcases hm hq with e|⟨h1,h2⟩
  .rw[e];exact AHeap.wA ..
  .exact zpO (h.here q h1) h2
 .rcases hm hq with e|⟨h1,h2⟩
  .rw[e];exact hp
  .exact h.new q h1
theorem m0{J:Type}{a:J}{l:List J}:a∈a::l:=fB
theorem m1{J:Type}{a b:J}{l:List J}:a∈b::a::l:=fA _ m0
theorem m2{J:Type}{a b c:J}{l:List J}:a∈b::c::a::l:=fA _ m1
theorem m3{J:Type}{a b c d:J}{l:List J}:a∈b::c::d::a::l:=fA _ m2
theorem m4{J:Type}{a b c d e:J}{l:List J}:a∈b::c::d::e::a::l:=fA _ m3
theorem m5{J:Type}{a b c d e f:J}{l:List J}:a∈b::c::d::e::f::a::l:=fA _ m4
theorem m6{J:Type}{a b c d e f g:J}{l:List J}:a∈b::c::d::e::f::g::a::l:=fA _ m5
theorem zpT{O O':AHeap}{i:Int}{x dx rd pb pk pt pc:Addr}(h:Lay O O' [(pc,.list []),(pt,.list []),(pk,.list []),(pb,.list []),(rd,.idict [(0,.ref pb),(1,.ref pk)]),(x,.inst 240 dx),(dx,.idict [(3,.int i),(4,.ref rd),(5,.ref pt),(6,.ref pc)])]) :
  (∀y∈LA.all ⟨x,dx,rd,pb,pk,pt,pc⟩,O y=none)/\LAt O' ⟨x,dx,rd,pb,pk,pt,pc⟩ ⟨[],[],i,[],[]⟩:=by
 have nd:[pc,pt,pk,pb,rd,x,dx].Nodup:=h.nd;have n:=fT.mp nd;have n1:=fT.mp n.2;have n2:=fT.mp n1.2;have n3:=fT.mp n2.2;have n4:=fT.mp n3.2;refine⟨fR.mpr ⟨h.new _ m5,fR.mpr ⟨h.new _ m6,fR.mpr ⟨h.new _ m4,fR.mpr ⟨h.new _ m3,fR.mpr ⟨h.new _ m2,fR.mpr ⟨h.new _ m1,fR.mpr ⟨h.new _ m0,λ_ h=>nomatch h⟩⟩⟩⟩⟩⟩⟩,h.here _ m5,h.here _ m6,h.here _ m4,h.here _ m3,h.here _ m2,h.here _ m1,h.here _ m0,λe=>n4.1 (show rd∈[x,dx] by rw[<-show dx=rd from e];exact m1),?_⟩;have r:[pb,pk,pt,pc].Nodup:=List.pairwise_reverse.mpr ((List.Nodup.sublist (List.take_sublist 4 [pc,pt,pk,pb,rd,x,dx]) nd).imp λh=>Ne.symm h);exact r
theorem zjx(G:Gd X (hK P))(hd:n<500){i:Int}(hi:znw i=true)(q:∀O' a,(∀x o,O x=some o->O' x=some o)->(∀x∈a.all,O x=none)->LAt O' a ⟨[],[],i,[],[]⟩->Q (.ref a.self) O'):zmH X 240 173 ⟨n,false⟩ [.int i] Q Z O:=by
 intro dx x hdx hx hne;obtain⟨i1,i2⟩:=gO.mp hi;refine zse G (by dsimp only;exact zyK hd) λL=>?_;have l0:Lay O O []:=⟨λ_ _ e=>e,(λ_ h=>nomatch h),(λ_ h=>nomatch h),.nil⟩
 have l0:=(l0.add (o:=.idict []) hdx).add (p:=x) (o:=.inst 240 dx) ((AHeap.wB _ _ hne.symm).trans hx);generalize (O.set dx (.idict [])).set x (.inst 240 dx)=O0 at l0 ⊢;refine zaR (G.push L) (by dsimp only;exact zyJ hd) ?_;refine zfQ i1 ?_
 conv=>whnf
 rw[i2];refine zo (l0.here _ m0) (l0.here _ m1) ?_;refine qZ rfl ?_;have l1:=Lay.upd [(x,.inst 240 dx)] [] l0 (o':=.idict (jx [] 3 (.int i)));generalize O0.set dx (.idict (jx [] 3 (.int i)))=σ1 at l1 ⊢;intro rd hrd;have l2:=l1.add (o:=.idict []) hrd;generalize σ1.set rd (.idict [])=σ2 at l2 ⊢;intro pb hpb;have l3:=l2.add (o:=.list []) hpb;generalize σ2.set pb (.list [])=σ3 at l3 ⊢;intro pk hpk;have l4:=l3.add (o:=.list []) hpk;generalize σ3.set pk (.list [])=σ4 at l4 ⊢;refine⟨l4.here _ m2,?_⟩;have l5:=Lay.upd [(pk,.list []),(pb,.list [])] _ l4 (o':=.idict (jx (jx [] 0 (AV.str 0,AV.ref pb).snd) 1 (AV.str 1,AV.ref pk).snd));refine zo (l5.here _ m3) (l5.here _ m4) ?_;refine qZ rfl ?_;have l5:=Lay.upd [(pk,.list []),(pb,.list []),_,(x,.inst 240 dx)] [] l5 (o':=.idict (jx (jx [] 3 (.int i)) 4 (.ref rd)));generalize (σ4.set rd _).set dx (.idict (jx (jx [] 3 (.int i)) 4 (.ref rd)))=σ5 at l5 ⊢;intro pt hpt;have l6:=l5.add (o:=.list []) hpt;refine zo (l6.here _ m4) (l6.here _ m5) ?_;refine qZ rfl ?_;have l6:=Lay.upd [(pt,.list []),(pk,.list []),(pb,.list []),_,(x,.inst 240 dx)] [] l6 (o':=.idict (jx (jx (jx [] 3 (.int i)) 4 (.ref rd)) 5 (.ref pt)));generalize (σ5.set pt (.list [])).set dx (.idict (jx (jx (jx [] 3 (.int i)) 4 (.ref rd)) 5 (.ref pt)))=σ6 at l6 ⊢;intro pc hpc;have l7:=l6.add (o:=.list []) hpc;refine zo (l7.here _ m5) (l7.here _ m6) ?_;refine qZ rfl ?_
 have l7:=Lay.upd [(pc,.list []),(pt,.list []),(pk,.list []),(pb,.list []),_,(x,.inst 240 dx)] [] l7 (o':=.idict (jx (jx (jx (jx [] 3 (.int i)) 4 (.ref rd)) 5 (.ref pt)) 6 (.ref pc)));have h:=zpT l7;exact Ends.same ⟨rfl,q _ ⟨x,dx,rd,pb,pk,pt,pc⟩ l7.sub h.1 h.2⟩
end
noncomputable def kK{J:Type}(c:Bool)(t:J)(gs:List (List J)):List (List J):=match gs with
 | []=>[[t]]
 | g::gs=>match c with
  | true=>[t]::g::gs
  | false=>(t::g)::gs
noncomputable def gap{J:Type}(f:J->Int)(span:Int)(t:J)(ts:List J):Bool:=match ts with
 | []=>true
 | u::_=>decide (f u>f t+span)
noncomputable def zF{J:Type}(f:J->Int)(span:Int):List J->List (List J)
 | []=>[]
 | t::ts=>kK (gap f span t ts) t (zF f span ts)
theorem zlx{J:Type}(c:Bool)(t:J)(gs:List (List J)):(kK c t gs).flatten=t::gs.flatten:=by
 cases gs with
 | nil=>rfl
 | cons g gs=>cases c<;>rfl
theorem zpL{J:Type}(c:Bool)(t:J)(gs:List (List J)):∃h hs,kK c t gs=(t::h)::hs:=by
 cases gs with
 | nil=>exact⟨_,_,rfl⟩
 | cons g gs=>cases c<;>exact jL _ _ rfl
theorem znJ{J β:Type}(k:J->β)(c:Bool)(t:J)(gs:List (List J)):kK c (k t) (gs.map (List.map k))=(kK c t gs).map (List.map k):=by
 cases gs with
 | nil=>rfl
 | cons g gs=>cases c<;>rfl
theorem jf{J:Type}{f:J->Int}{span:Int}(ts:List J):(zF f span ts).flatten=ts:=by
 induction ts with
 | nil=>rfl
 | cons t ts ih=>unfold zF;rw[zlx,ih]
theorem zb8{J:Type}(f:J->Int)(span:Int)(t:J)(ts:List J):∃h hs,zF f span (t::ts)=(t::h)::hs:=zpL ..
theorem zca{J:Type}{f:J->Int}{span:Int}{ts:List J}:∀g∈zF f span ts,g≠[]:=by
 induction ts with
 | nil=>intro g hg;cases hg
 | cons t ts ih=>
  intro g hg;unfold zF kK at hg;cases e:zF f span ts with
  | nil=>rw[e] at hg;rw[fP.mp hg];exact λe=>nomatch e
  | cons g' gs'=>
   rw[e] at hg ih;cases hc:gap f span t ts with
   | true=>
    rw[hc] at hg
    rcases fM.mp hg with rfl|hg
    .exact λe=>nomatch e
    .exact ih g hg
   | false=>
    rw[hc] at hg
    rcases fM.mp hg with rfl|hg
    .exact λe=>nomatch e
    .exact ih g (fA _ hg)
theorem zlV{J β:Type}{f:J->Int}{g:β->Int}{k:J->β}(hk:∀a,g (k a)=f a){span:Int}(ts:List J):zF g span (ts.map k)=(zF f span ts).map (List.map k):=by
 induction ts with
 | nil=>rfl
 | cons t ts ih=>
  have:gap g span (k t) (ts.map k)=gap f span t ts:=by
   cases ts with
   | nil=>rfl
   | cons u us=>show decide (g (k u)>g (k t)+span)=_;rw[hk,hk];rfl
  show kK (gap g span (k t) (ts.map k)) (k t) (zF g span (ts.map k))=_;rw[ih,this,znJ];rfl
noncomputable def zsu(g:List zc)(hs:List (List zc)):List (List zc):=match hs with
 | []=>[]
 | h::hs=>(g++h)::hs
theorem zhe{span:Int}(ts:List Tr):∀(gs:List (List zc)) (g:List zc) (u:Tr),(ts.foldl (jQ span) (gs++[g++[u.2]],some u.1)).1=gs++zsu g ((zF (·.1) span (u::ts)).map (List.map (·.2))):=by
 induction ts with
 | nil=>intro gs g u;rfl
 | cons t ts ih=>
  intro gs g u;rw[pM];refine zY (zb8 (·.1) span t ts) λh hs e=>?_;have eu:zF (·.1) span (u::t::ts)=kK (decide (t.1>u.1+span)) u ((t::h)::hs):=by rw[<-e];rfl
  have es:jQ span (gs++[g++[u.2]],some u.1) t=(zR (if decide (t.1>u.1+span) then gs++[g++[u.2]]++[[]] else gs++[g++[u.2]]) t.2,some t.1):=rfl;rw[eu,es];cases hc:decide (t.1>u.1+span) with
  | true=>
   rw[if_pos rfl,jG,ih,e];simp[zsu,kK]
  | false=>
   rw[if_neg pK,jG,ih,e];simp[zsu,kK]
theorem zfd{span:Int}(ts:List Tr):(ts.foldl (jQ span) ([],none)).1=(zF (·.1) span ts).map (List.map (·.2)):=by
 cases ts with
 | nil=>rfl
 | cons t ts=>
  rw[pM];have:jQ span ([],none) t=([]++[[]++[t.2]],some t.1):=rfl;rw[this,zhe];refine zY (zb8 (·.1) span t ts) λh hs e=>?_;rw[e];rfl
def zbl{J:Type}(f:J->Int)(span:Int)(S:List J)(a b:Int):Prop:=∀x∈S,a<=f x->f x<b->∃y∈S,f x<f y/\f y<=f x+span
theorem zlH{J:Type}{f:J->Int}{span:Int}{S:List J}{t:J}{a b:Int}(h:zbl f span (t::S) a b)(ht:∀y∈S,f t<=f y):zbl f span S a b:=λx hx h1 h2=>by
 refine zj (h x (fA _ hx) h1 h2) λy hy h3 h4=>?_
 rcases fM.mp hy with rfl|hy
 .exact absurd h3 (fD0.mpr (ht x hx))
 .exact zt y hy h3 h4
theorem zlj{J:Type}{f:J->Int}{span:Int}{S:List J}{t:J}{a b:Int}(h:zbl f span S a b)(ht:a<=f t->f t<b->∃y∈S,f t<f y/\f y<=f t+span):zbl f span (t::S) a b:=λx hx h1 h2=>by
 rcases fM.mp hx with rfl|hx
 .refine zb (ht h1 h2) λy hy h3=>?_;exact zd y (fA _ hy) h3
 .refine zb (h x hx h1 h2) λy hy h3=>?_;exact zd y (fA _ hy) h3
theorem zhY{J:Type}{f:J->Int}{span:Int}(h0:0<=span):∀{ts:List J} {t:J} {g:List J} {gs:List (List J)},(t::ts).Pairwise (λa b=>f a<=f b)->zF f span (t::ts)=g::gs->(∀x,x∈g->x∈t::ts/\zbl f span (t::ts) (f t) (f x))/\(∀x,x∈gs.flatten->¬zbl f span (t::ts) (f t) (f x)/\∀y∈g,f y+span<f x):=by
 intro ts
 induction ts with
 | nil=>
  intro t g gs hs e;cases e;refine⟨λx hx=>⟨hx,?_⟩,λx hx=>nomatch hx⟩;rw[fP.mp hx];exact λy hy h1 h2=>absurd h1 (fCO.mpr h2)
 | cons u us ih=>
  intro t g gs hs e;obtain⟨ht,hs'⟩:=gJ.mp hs;have htu:=ht u fB;refine zY (zb8 f span u us) λg' gs' e'=>?_;obtain⟨i1,i2⟩:=ih hs' e';have huf:∀x∈us,f u<=f x:=(gJ.mp hs').1;have ee:kK (decide (f u>f t+span)) t ((u::g')::gs')=g::gs:=by rw[<-e'];exact e
  unfold kK at ee;dsimp only at ee;have hfl:=jf (f:=f) (span:=span) (u::us);rw[e'] at hfl
  by_cases hc:f u>f t+span
  .rw[Hz hc] at ee;cases ee;refine⟨λx hx=>?_,λx hx=>?_⟩
   .rw[fP.mp hx];exact⟨fB,λy hy h1 h2=>absurd h1 (fCO.mpr h2)⟩
   .rw[hfl] at hx;have hux:f u<=f x:=by
     rcases fM.mp hx with rfl|hx
     .exact fBA _
     .exact huf x hx
    refine⟨λhl=>?_,λy hy=>by rw[fP.mp hy];exact zEn hc hux⟩;refine zj (hl t fB (fBA _) (zEf h0 hc hux)) λy hy h1 h2=>?_
    rcases fM.mp hy with rfl|hy
    .exact y41 h1
    .rcases fM.mp hy with rfl|hy
     .exact zD6 h2 hc
     .have:=huf y hy;exact zEh hc h2 this
  .rw[Hy hc] at ee;cases ee;refine⟨λx hx=>?_,λx hx=>?_⟩
   .rcases fM.mp hx with rfl|hx
    .exact⟨fB,λy hy h1 h2=>absurd h1 (fCO.mpr h2)⟩
    .obtain⟨j1,j2⟩:=i1 x hx;refine⟨fA _ j1,zlj (λy hy h1 h2=>?_) λh1 h2=>?_⟩
     .have:f u<=f y:=by
       rcases fM.mp hy with rfl|hy
       .exact fBA _
       .exact huf y hy
      exact j2 y hy this h2
     .by_cases hlt:f t<f u
      .exact zt u fB hlt (zEd hc)
      .have hut:f u=f t:=by exact zD3 htu hlt
       refine zb (j2 u fB (fBA _) (zEb h2 hlt)) λy hy h3=>?_;exact zt y hy (zEj htu h3) (zEo hlt h3)
   .obtain⟨j1,j2⟩:=i2 x hx;refine⟨λhl=>j1 λy hy h1 h2=>?_,λy hy=>?_⟩
    .exact zlH hl ht y hy (zD7 htu h1) h2
    .rcases fM.mp hy with rfl|hy
     .have:=j2 u fB;exact zEk htu this
     .exact j2 y hy
theorem zeo{J:Type}{f:J->Int}{span:Int}:∀{ts:List J} {g:List J} {gs:List (List J)},zF f span ts=g::gs->∃ts',ts=g++ts'/\gs=zF f span ts':=by
 intro ts
 induction ts with
 | nil=>intro g gs e;cases e
 | cons t ts ih=>
  intro g gs e;have hfl:=jf (f:=f) (span:=span) ts;have e:kK (gap f span t ts) t (zF f span ts)=g::gs:=e;cases ep:zF f span ts with
  | nil=>
   rw[ep] at e hfl;cases e;exact zd [] (by rw[<-hfl];rfl) rfl
  | cons g' gs'=>
   rw[ep] at e;cases hc:gap f span t ts with
   | true=>rw[hc] at e;cases e;exact zd ts rfl ep.symm
   | false=>
    rw[hc] at e;cases e;refine zb (ih ep) λts' h1 h2=>?_;exact zd ts' (by rw[h1];rfl) h2
section
variable{J:Type}{f:J->Int}{span:Int}
theorem zb9(h0:0<=span){ts g:List J}{gs:List (List J)}(hs:ts.Pairwise (λa b=>f a<=f b))(e:zF f span ts=g::gs):∃t∈g,(∀x∈ts,f t<=f x)/\(∀x,x∈g->zbl f span ts (f t) (f x))/\(∀x,x∈gs.flatten->¬zbl f span ts (f t) (f x)/\∀y∈g,f y+span<f x):=by
 cases ts with
 | nil=>cases e
 | cons t ts=>
  refine zY (zb8 f span t ts) λh hs' e'=>?_;have ht:t∈g:=by rw[e'] at e;cases e;exact fB
  obtain⟨h1,h2⟩:=zhY h0 hs e;refine jU t ht (λx hx=>?_) (λx hx=>(h1 x hx).2) h2
  rcases fM.mp hx with rfl|hx
  .exact fBA _
  .exact(gJ.mp hs).1 x hx
theorem zhX(h0:0<=span):∀{gs:List (List J)} {ts:List J},ts.Pairwise (λa b=>f a<=f b)->zF f span ts=gs->gs.Pairwise (λg g'=>∀a∈g,∀b∈g',f a+span<f b):=by
 intro gs
 induction gs with
 | nil=>intro ts _ _;exact .nil
 | cons g gs ih=>
  intro ts hs e;refine zb (zeo e) λts' h1 h2=>?_;refine zy (zb9 h0 hs e) λt ht hmin h3 h4=>?_;refine gJ.mpr ⟨λg' hg' a ha b hb=>(h4 b (pG.mpr (zd g' hg' hb))).2 a ha,ih (ts:=ts') ?_ h2.symm⟩;rw[h1] at hs;exact(gF.mp hs).2.1
theorem qg(h0:0<=span):∀{gs:List (List J)} {ts:List J},ts.Pairwise (λa b=>f a<=f b)->zF f span ts=gs->∀{g:List J},g∈gs->∀{x y:J},x∈g->y∈ts->f x<=f y->(y∈g↔zbl f span ts (f x) (f y)):=by
 intro gs
 induction gs with
 | nil=>intro ts _ _ g hg;cases hg
 | cons g1 gs ih=>
  intro ts hs e g hg x y hx hy hxy;refine zb (zeo e) λts' h1 h2=>?_;refine zy (zb9 h0 hs e) λt ht hmin h3 h4=>?_;have hfl:gs.flatten=ts':=by rw[h2];exact jf ts'
  rcases fM.mp hg with rfl|hg
  .constructor
   .intro hyg z hz hz1 hz2;exact h3 y hyg z hz (hmin z hz) hz2
   .intro hl;rw[h1] at hy
    rcases fS.mp hy with hy|hy
    .exact hy
    .exfalso;refine(h4 y (by rw[hfl];exact hy)).1 λz hz hz1 hz2=>?_
     by_cases hzx:f z<f x
     .exact h3 x hx z hz hz1 hzx
     .exact hl z hz (y62 hzx) hz2
  .have hxf:x∈gs.flatten:=pG.mpr (zd g hg hx);have hbelow:=(h4 x hxf).2;have hy':y∈ts':=by
    rw[h1] at hy
    rcases fS.mp hy with hy|hy
    .exact absurd hxy (fCO.mpr (fBK (fA4 h0) (hbelow y hy)))
    .exact hy
   have hs':ts'.Pairwise (λa b=>f a<=f b):=by rw[h1] at hs;exact(gF.mp hs).2.1
   rw[ih hs' h2.symm hg hx hy' hxy];have mem:∀z,f x<=f z->(z∈ts↔z∈ts'):=λz hz=>by
    rw[h1];refine⟨λh=>?_,λh=>gL _ h⟩
    rcases fS.mp h with h|h
    .exact absurd hz (fCO.mpr (fBK (fA4 h0) (hbelow z h)))
    .exact h
   constructor
   .intro hl z hz hz1 hz2;refine zj (hl z ((mem z hz1).mp hz) hz1 hz2) λw hw hw1 hw2=>?_;exact zt w ((mem w (zxn hz1 hw1)).mpr hw) hw1 hw2
   .intro hl z hz hz1 hz2;refine zj (hl z ((mem z hz1).mpr hz) hz1 hz2) λw hw hw1 hw2=>?_;exact zt w ((mem w (zxn hz1 hw1)).mp hw) hw1 hw2
theorem zfu(h0:0<=span){ts:List J}(hs:ts.Pairwise (λa b=>f a<=f b)){g g':List J}(hg:g∈zF f span ts)(hg':g'∈zF f span ts){x:J}(hx:x∈g)(hx':x∈g'):g=g':=by
 have h:=zhX h0 hs rfl;generalize zF f span ts=gs at h hg hg'
 induction gs with
 | nil=>cases hg
 | cons g1 gs ih=>
  obtain⟨h1,h2⟩:=gJ.mp h
  rcases fM.mp hg with e|i
  .rcases fM.mp hg' with e'|i'
   .rw[e,e']
   .subst e;exact absurd (h1 g' i' x hx x hx') (fD0.mpr (fA4 h0))
  .rcases fM.mp hg' with e'|i'
   .subst e';exact absurd (h1 g i x hx' x hx) (fD0.mpr (fA4 h0))
   .exact ih h2 i i'
theorem qo(h0:0<=span){ts:List J}(hs:ts.Pairwise (λa b=>f a<=f b)){g:List J}(hg:g∈zF f span ts){x y:J}(hx:x∈g)(hy:y∈ts)(hxy:f y<=f x):y∈g↔zbl f span ts (f y) (f x):=by
 have hy':=hy;rw[<-jf (f:=f) (span:=span) ts] at hy';refine zb (pG.mp hy') λg' hg' hyg=>?_;have hxt:x∈ts:=by rw[<-jf (f:=f) (span:=span) ts];exact pG.mpr (zd g hg hx)
 rw[<-qg h0 hs rfl hg' hyg hxt hxy];constructor
 .intro h;rw[zfu h0 hs hg' hg hyg h];exact hx
 .intro h;rw[zfu h0 hs hg hg' hx h];exact hyg
end
theorem zso{J:Type}{f:J->Int}:∀{l:List J},l≠[]->∃z∈l,∀w∈l,f w<=f z:=by
 intro l
 induction l with
 | nil=>intro h;exact absurd rfl h
 | cons x l ih=>
  intro _
  by_cases hl:l=[]
  .subst hl;exact zd x fB (λw hw=>by rw[fP.mp hw];exact fBA _)
  .refine zb (ih hl) λz hz h=>?_
   by_cases hxz:f x<=f z
   .refine zd z (fA _ hz) (λw hw=>?_)
    rcases fM.mp hw with rfl|hw
    .exact hxz
    .exact h w hw
   .refine zd x fB (λw hw=>?_)
    rcases fM.mp hw with rfl|hw
    .exact fBA _
    .have:=h w hw;exact zEe hxz this
section
variable{J:Type}{f:J->Int}{span:Int}{ts ts':List J}{n:J}
theorem zhB(hm:∀y,y∈ts'↔y∈ts\/y=n){x:J}(hx:x∈ts){b:Int}(h:zbl f span ts (f x) b):zbl f span ts' (f x) b:=λz hz h1 h2=>by
 rcases(hm z).mp hz with hz|rfl
 .refine zb (h z hz h1 h2) λw hw h3=>?_;exact zd w ((hm w).mpr (.inl hw)) h3
 .by_cases he:f z=f x
  .refine zb (h x hx (fBA _) (zEa h2 he)) λw hw h3=>?_;exact zt w ((hm w).mpr (.inl hw)) (zEg he h3) (zEl he h3)
  .have hne:(ts.filter λw=>decide (f x<=f w/\f w<f z))≠[]:=λe=>by
    have:x∈ts.filter λw=>decide (f x<=f w/\f w<f z):=fU.mpr ⟨hx,Hz ⟨fBA _,zxm h1 he⟩⟩;rw[e] at this;cases this
   refine zb (zso (f:=f) hne) λy hy hmax=>?_;obtain⟨hyt,hy2⟩:=fU.mp hy;obtain⟨hy3,hy4⟩:=H0 hy2;refine zj (h y hyt hy3 (fC1 hy4 h2)) λw hw h3 h4=>?_;have hwz:f z<=f w:=by
    by_cases hlt:f w<f z
    .have:=hmax w (fU.mpr ⟨hw,Hz ⟨fC2 (fBK hy3 h3),hlt⟩⟩);exact zD9 h3 this
    .exact y62 hlt
   by_cases hwe:f w=f z
   .refine zj (h w hw (y68 h1 hwe) (zxo h2 hwe)) λv hv h5 h6=>?_;exact zt v ((hm v).mpr (.inl hv)) (zEc hwe h5) (zEm hwe h6)
   .exact zt w ((hm w).mpr (.inl hw)) (zxm hwz hwe) (fCY h4 (Int.add_le_add_right (fC2 hy4) _))
theorem zf8{ts:List J}{x:J}(hx:x∈ts):∃G∈zF f span ts,x∈G:=by
 rw[<-jf (f:=f) (span:=span) ts] at hx;exact pG.mp hx
theorem qJ{ts G:List J}(hG:G∈zF f span ts){x:J}(hx:x∈G):x∈ts:=by
 rw[<-jf (f:=f) (span:=span) ts];exact pG.mpr (zd G hG hx)
theorem zft(h0:0<=span)(hs:ts.Pairwise (λa b=>f a<=f b))(hs':ts'.Pairwise (λa b=>f a<=f b))(hm:∀y,y∈ts'↔y∈ts\/y=n){G G':List J}(hG:G∈zF f span ts)(hG':G'∈zF f span ts'){x:J}(hx:x∈G)(hx':x∈G'):∀y∈G,y∈G':=λy hy=>by
 have hyt:=qJ hG hy;have hxt:=qJ hG hx;have hyt':=(hm y).mpr (.inl hyt)
 rcases fCZ (f x) (f y) with h|h
 .exact(qg h0 hs' rfl hG' hx' hyt' h).mpr (zhB hm hxt ((qg h0 hs rfl hG hx hyt h).mp hy))
 .exact(qo h0 hs' hG' hx' hyt' h).mpr (zhB hm hyt ((qo h0 hs hG hx hyt h).mp hy))
theorem zom(h0:0<=span)(hs:ts.Pairwise (λa b=>f a<=f b))(hs':ts'.Pairwise (λa b=>f a<=f b))(hm:∀y,y∈ts'↔y∈ts\/y=n){G G':List J}(hG:G∈zF f span ts)(hG':G'∈zF f span ts'){x:J}(hx:x∈G)(hx':x∈G')(hn:n∉G'):∀y∈G',y∈G:=λy hy=>by
 have nt:n∈ts':=(hm n).mpr (.inr rfl);have hyt':=qJ hG' hy;have hyt:y∈ts:=((hm y).mp hyt').resolve_right λe=>hn (e▸hy);have key:∀a b,a∈G'->zbl f span ts' (f a) b->zbl f span ts (f a) b:=λa b ha hl z hz h1 h2=>by
  refine zj (hl z ((hm z).mpr (.inl hz)) h1 h2) λw hw h3 h4=>?_
  rcases(hm w).mp hw with hw|rfl
  .exact zt w hw h3 h4
  .exfalso;have hzG:z∈G':=(qg h0 hs' rfl hG' ha ((hm z).mpr (.inl hz)) h1).mpr λv hv h5 h6=>hl v hv h5 (zD8 h2 h6);exact hn ((qg h0 hs' rfl hG' hzG nt (y55 h3)).mpr λv hv h5 h6=>(zt w nt h6 (zEi h4 h5)))
 rcases fCZ (f x) (f y) with h|h
 .exact(qg h0 hs rfl hG hx hyt h).mpr (key x (f y) hx' ((qg h0 hs' rfl hG' hx' hyt' h).mp hy))
 .exact(qo h0 hs hG hx hyt h).mpr (key y (f x) hy ((qo h0 hs' hG' hx' hyt' h).mp hy))
end
theorem zox{t u:Tr}(ht:TrOk t)(hu:TrOk u)(h:zay t<=zay u):t.1<=u.1:=
 fD0.mp λhlt=>absurd h (fDY.mpr ((zaT (j7 hu.hi) (j7 ht.hi)).mpr (.inl ((zaT (pD (fBD _)) (pD (fBD _))).mpr (.inl ((toNat_lt hu.day ht.day).mpr hlt))))))
theorem zdU{es fs:List Ent}(he:EsOk es)(hf:EsOk fs):(inO es fs).Pairwise λa b=>a.1<=b.1:=
 (zgF zay (zbh es fs)).imp_of_mem λha hb h=>zox (qE he hf (inO_mem.mp ha)).1 (qE he hf (inO_mem.mp hb)).1 h
theorem zac(es fs:List Ent)(span:Int):grps es fs span=(zF (·.1) span (inO es fs)).map (List.map (·.2)):=zfd _
theorem zpA{es fs:List Ent}{span:Int}{g:List zc}(hg:g∈grps es fs span):g.length<=es.length+fs.length:=by
 have:=List.Sublist.length_le (fBV hg);rw[qL,fC,za7] at this;exact this
theorem zr8(es fs:List Ent):(inO es fs).Nodup:=by
 have:=zcq es fs;generalize inO es fs=l at this
 induction l with
 | nil=>exact .nil
 | cons x l ih=>
  rw[gM] at this;obtain⟨n1,n2⟩:=fT.mp this;exact fT.mpr ⟨λh=>n1 (gN h),ih n2⟩
theorem zhW{es fs:List Ent}{span:Int}{G:List Tr}(hG:G∈zF (·.1) span (inO es fs)):G.Nodup/\∀t∈G,t∈inO es fs:=by
 have hfl:=jf (f:=λt:Tr=>t.1) (span:=span) (inO es fs);refine⟨kr (by rw[hfl];exact zr8 es fs) hG,λt ht=>by rw[<-hfl];exact pG.mpr (zd G hG ht)⟩
theorem zfz(s:Bool)(es:List Ent)(e:Ent):km s (es++[e])=km s es++[(e.1,(s,(es.length:Int)))]:=by
 unfold km;rw[fF,fY,fCW,fW];refine congr (congrArg _ (gG λi hi=>?_)) ?_
 .have:=gV.mp hi;rw[fQ,pC this,<-fQ]
 .rw[List.map_singleton,fQ,gI (fO _),fC0];rfl
noncomputable def Led.trs(D:Led):List Tr:=inO D.es D.fs
theorem zkD{D:Led}{s:Bool}{e:Ent}{t:Tr}:t∈(D.add s e).trs↔t∈D.trs\/t=(e.1,(s,((D.row s).length:Int))):=by
 unfold Led.trs;rw[inO_mem,inO_mem];unfold zbh;cases s with
 | false=>
  show t∈km false (D.es++[e])++km true D.fs↔_;rw[zfz];simp only[fS,fP];show _↔(_\/_)\/t=(e.1,(false,(D.es.length:Int)))
  constructor
  .rintro((h|h)|h)
   .exact .inl (.inl h)
   .exact .inr h
   .exact .inl (.inr h)
  .rintro((h|h)|h)
   .exact .inl (.inl h)
   .exact .inr h
   .exact .inl (.inr h)
 | true=>
  show t∈km false D.es++km true (D.fs++[e])↔_;rw[zfz];simp only[fS,fP];show _↔(_\/_)\/t=(e.1,(true,(D.fs.length:Int)))
  constructor
  .rintro(h|h|h)
   .exact .inl (.inl h)
   .exact .inl (.inr h)
   .exact .inr h
  .rintro((h|h)|h)
   .exact .inl h
   .exact .inr (.inl h)
   .exact .inr (.inr h)
theorem zsy{ms:List Mt}{r:List zc}{m:Mt}(h:m∈pk ms r):m∈ms:=by
 have gen:∀n r,m∈pkF ms n r->m∈ms:=λn=>by
  induction n with
  | zero=>intro r h;cases h
  | succ n ih=>
   intro r h;cases r with
   | nil=>cases h
   | cons x t=>
    unfold pkF at h;cases hg:kH ms (x::t) with
    | nil=>rw[hg] at h;exact ih t h
    | cons z zs=>
     rw[hg] at h
     rcases fM.mp h with rfl|h
     .exact(qm (by rw[hg];exact fB)).2.2.1
     .exact ih _ h
 exact gen _ _ h
theorem znV{D:Led}(h:LOk D){g:List zc}(hg:GOk g D.es.length D.fs.length)(hl:D.tick.length<=992):LOk (D.pick g):=by
 have hpl:=zoo ((win D.es D.fs D.span g).filter λm=>!decide (m∈D.clos)) g;have hfl:=fAG (λm=>!decide (zZ m∈g)) D.tick;have h8:=hg.few;refine⟨h.es,h.fs,h.few,λm hm=>?_,h.clos,?_,h.cl⟩
 .rcases fS.mp hm with hm|hm
  .exact h.tick m (fU.mp hm).1
  .exact zo3 hg (fU.mp (zsy hm)).1
 .show ((D.tick.filter _)++pk _ g).length<=1000;rw[fF];exact fDU (fE hfl hl) (fE hpl h8)
theorem kC(D:Led)(s:Bool)(e:Ent):(D.add s e).span=D.span:=by cases s<;>rfl
noncomputable abbrev szM(m:Mt):Nat:=(ze m).length
noncomputable def zam(r:List zc)(m:Mt):List zc:=r.filter λy=>!decide (y∈ze m)
noncomputable def jC:List Mt->List zc->Nat
 | [],_=>0
 | m::ms,r=>max (if ∀y∈ze m,y∈r then szM m+jC ms (zam r m) else 0) (jC ms r)
noncomputable def tot(S:List Mt):Nat:=(S.map szM).sum
structure Pack(r:List zc)(ms S:List Mt):Prop where
 sub:∀m∈S,m∈ms
 fit:∀m∈S,∀y∈ze m,y∈r
 dis:S.Pairwise λa b=>∀y∈ze a,y∉ze b
theorem zoX{S T:List Mt}(p:S.Perm T):tot S=tot T:=by
 unfold tot
 induction p with
 | nil=>rfl
 | cons x p ih=>simp[ih]
 | swap x y l=>simp;exact zEJ
 | trans p q h1 h2=>rw[h1,h2]
theorem zdB{a b:Mt}(h:∀y∈ze a,y∉ze b):∀y∈ze b,y∉ze a:=λy hy hy'=>h y hy' hy
theorem Pack.split{r:List zc}{ms S:List Mt}{m:Mt}(P:Pack r ms S)(h:m∈S):tot S=szM m+tot (S.erase m)/\Pack (zam r m) ms (S.erase m):=by
 have p:=List.perm_cons_erase h;have d:=(p.pairwise_iff (R:=λa b:Mt=>∀y∈ze a,y∉ze b) (λh=>zdB h)).mp P.dis;obtain⟨d1,d2⟩:=gJ.mp d;refine⟨by rw[zoX p];rfl,λa ha=>P.sub a (List.mem_of_mem_erase ha),λa ha y hy=>?_,d2⟩;unfold zam;rw[fU];exact⟨P.fit a (List.mem_of_mem_erase ha) y hy,by simpa using zdB (d1 a ha) y hy⟩
theorem zb2(ms:List Mt):∀(r:List zc) (S:List Mt),(∀m∈ms,ze m≠[])->Pack r ms S->tot S<=jC ms r:=by
 induction ms with
 | nil=>
  intro r S _ P;cases S with
  | nil=>simp[tot]
  | cons a S=>exact absurd (P.sub a fB) (by simp)
 | cons m0 ms ih=>
  intro r S hn P;have hn':∀m∈ms,ze m≠[]:=λm hm=>hn m (fA _ hm);simp only[jC]
  by_cases h:m0∈S
  .obtain⟨h1,P'⟩:=P.split h;have hne:∀a∈S.erase m0,a≠m0:=λa ha e=>by
    subst e;have h0:=hn a fB;cases hm:ze a with
    | nil=>exact h0 hm
    | cons y l=>
     have hy:y∈ze a:=by rw[hm];exact fB
     have:=P'.fit a ha y hy;unfold zam at this;rw[fU] at this;simp[hy] at this
   have:=ih (zam r m0) (S.erase m0) hn' ⟨λa ha=>(fM.mp (P'.sub a ha)).resolve_left (hne a ha),P'.fit,P'.dis⟩;rw[if_pos (P.fit m0 h),h1];exact zEP this
  .have:=ih r S hn' ⟨λa ha=>(fM.mp (P.sub a ha)).resolve_left (λe=>h (e▸ha)),P.fit,P.dis⟩;exact zEI this
theorem zb1(ms:List Mt):∀(r:List zc),∃S,Pack r ms S/\tot S=jC ms r:=by
 induction ms with
 | nil=>exact λr=>⟨[],⟨(λ_ h=>nomatch h),(λ_ h=>nomatch h),.nil⟩,rfl⟩
 | cons m0 ms ih=>
  intro r;refine zb (ih r) λS1 P1 h1=>?_;have base:Pack r (m0::ms) S1:=⟨λa ha=>fA _ (P1.sub a ha),P1.fit,P1.dis⟩
  simp only[jC]
  by_cases hf:∀y∈ze m0,y∈r
  .rw[if_pos hf];refine zb (ih (zam r m0)) λS2 P2 h2=>?_
   rcases fDO (szM m0+jC ms (zam r m0)) (jC ms r) with hle|hle
   .exact zd S1 base (zEN h1 hle)
   .refine zd (m0::S2) ⟨λa ha=>?_,λa ha y hy=>?_,gJ.mpr ⟨λa ha y hy hy'=>?_,P2.dis⟩⟩ ?_
    .rcases fM.mp ha with rfl|ha
     .exact fB
     .exact fA _ (P2.sub a ha)
    .rcases fM.mp ha with rfl|ha
     .exact hf y hy
     .exact(fU.mp (P2.fit a ha y hy)).1
    .have:=(fU.mp (P2.fit a ha y hy')).2;simp[hy] at this
    .show szM m0+tot S2=_;exact zEO h2 hle
  .rw[if_neg hf];exact zd S1 base (zEE h1)
theorem zpt(l:List zc)(p:zc->Bool):(l.filter p).length+(l.filter λy=>!p y).length=l.length:=by
 induction l with
 | nil=>rfl
 | cons x l ih=>simp only[fBG];cases p x<;>simp<;>(first|exact zxv ih|exact zxu ih)
theorem zce{r:List zc}{m:Mt}(hr:r.Nodup)(hm:(ze m).Nodup)(hf:∀y∈ze m,y∈r):(zam r m).length+szM m=r.length:=by
 have h1:(r.filter λy=>decide (y∈ze m)).length=(ze m).length:=by
  refine fAH (zb4 (List.Nodup.sublist pL hr) λx hx=>by simpa using (fU.mp hx).2) (zb4 hm λx hx=>fU.mpr ⟨hf x hx,by simpa using hx⟩)
 have:=zpt r λy=>decide (y∈ze m);show (r.filter λy=>!decide (y∈ze m)).length+(ze m).length=r.length;exact zEQ h1 this
def kx(m:Mt):Prop:=(ze m).Nodup/\ze m≠[]
section
variable{ms:List Mt}
theorem zfp(hn:∀m∈ms,kx m){x:zc}{t:List zc}:jC ms t<=jC ms (x::t):=by
 refine zb (zb1 ms t) λS P h=>?_;rw[<-h];exact zb2 ms (x::t) S (λm hm=>(hn m hm).2) ⟨P.sub,λa ha y hy=>fA _ (P.fit a ha y hy),P.dis⟩
theorem zfq(hn:∀m∈ms,kx m){r:List zc}{m:Mt}(hm:m∈ms)(hf:∀y∈ze m,y∈r):szM m+jC ms (zam r m)<=jC ms r:=by
 refine zb (zb1 ms (zam r m)) λS P h=>?_;rw[<-h];refine zb2 ms r (m::S) (λm hm=>(hn m hm).2) ⟨λa ha=>?_,λa ha y hy=>?_,gJ.mpr ⟨λa ha y hy hy'=>?_,P.dis⟩⟩
 .rcases fM.mp ha with rfl|ha
  .exact hm
  .exact P.sub a ha
 .rcases fM.mp ha with rfl|ha
  .exact hf y hy
  .exact(fU.mp (P.fit a ha y hy)).1
 .have:=(fU.mp (P.fit a ha y hy')).2;simp[hy] at this
theorem zeh(hn:∀m∈ms,kx m){x:zc}{t:List zc}:jC ms (x::t)=jC ms t\/∃m∈ms,x∈ze m/\(∀y∈ze m,y∈x::t)/\jC ms (x::t)=szM m+jC ms (zam (x::t) m):=by
 refine zb (zb1 ms (x::t)) λS P h=>?_
 by_cases hx:∃m∈S,x∈ze m
 .refine zb hx λm hm hxm=>?_;obtain⟨h1,P'⟩:=P.split hm;refine .inr (jU m (P.sub m hm) hxm (P.fit m hm) (fAH ?_ (zfq hn (P.sub m hm) (P.fit m hm))));have:=zb2 ms _ _ (λm hm=>(hn m hm).2) P';exact zES h h1 this
 .refine .inl (fAH ?_ (zfp hn));rw[<-h];refine zb2 ms t S (λm hm=>(hn m hm).2) ⟨P.sub,λa ha y hy=>?_,P.dis⟩
  rcases fM.mp (P.fit a ha y hy) with e|hy'
  .exact absurd (zd a ha (e▸hy)) hx
  .exact hy'
theorem zqb(hn:∀m∈ms,kx m):∀{r:List zc},r.Nodup->jC ms r<=r.length:=by
 intro r
 induction hl:r.length using Nat.strongRecOn generalizing r with
 | _ n ih=>
  intro hr;cases r with
  | nil=>
   refine zb (zb1 ms []) λS P h=>?_;cases S with
   | nil=>rw[<-h];simp[tot]
   | cons a S=>
    have h0:=(hn a (P.sub a fB)).2;cases hm:ze a with
    | nil=>exact absurd hm h0
    | cons y l=>exact absurd (P.fit a fB y (by rw[hm];exact fB)) (by simp)
  | cons x t=>
   simp only[fH] at hl
   rcases zeh hn (x:=x) (t:=t) with h|⟨m,hm,hx,hf,h⟩
   .have:=ih t.length (zq7 hl) rfl (fT.mp hr).2;exact zEM hl h this
   .have h1:=zce hr (hn m hm).1 hf;have h2:0<szM m:=fA2 hx;simp only[fH] at h1;have:=ih (zam (x::t) m).length (zxx hl h1 h2) rfl (List.Nodup.sublist pL hr);exact zET hl h h1 this
theorem zp0{lv:List zc->Int}(L:Lv ms lv)(hn:∀m∈ms,kx m):∀{r:List zc},r.Nodup->lv r=(r.length:Int)-jC ms r:=by
 intro r
 induction hl:r.length using Nat.strongRecOn generalizing r with
 | _ n ih=>
  intro hr;cases r with
  | nil=>rw[L.nil];have:=zqb hn (r:=[]) .nil;simp at this hl;exact zED hl this
  | cons x t=>
   simp only[fH] at hl;have ht:=ih t.length (zq7 hl) rfl (fT.mp hr).2;have hM:=L.cons x t;have hout:∀b∈zdb ms (x::t),∃m∈ms,x∈ze m/\(∀y∈ze m,y∈x::t)/\b=zam (x::t) m/\lv b=(b.length:Int)-jC ms b/\b.length+szM m=t.length+1:=λb hb=>by
    refine zb (pU.mp hb) λm hm he=>?_;unfold qd at he;dsimp only at he;split at he
    .rename_i hc
     cases he;have h1:=zce hr (hn m hm).1 hc.2;have h2:0<szM m:=fA2 hc.1;simp only[fH] at h1;exact⟨m,hm,hc.1,hc.2,rfl,ih _ (by show (zam (x::t) m).length<n;exact zxx hl h1 h2) rfl (List.Nodup.sublist pL hr),h1⟩
    .cases he
   have lo:=hM.2;have h1:lv (x::t)<=1+lv t:=lo _ fB;have hml:=zfp hn (x:=x) (t:=t);apply Int.le_antisymm
   .rcases zeh hn (x:=x) (t:=t) with h|⟨m,hm,hx,hf,h⟩
    .exact zEx hl ht h1 h
    .have hb:zam (x::t) m∈zdb ms (x::t):=pU.mpr (zd m hm (by unfold qd;dsimp only;rw[if_pos ⟨hx,hf⟩];rfl));have h2:=lo _ (fA _ (gN hb));refine ze8 (hout _ hb) λm' hm' _ _ _ h3 _=>?_;have h4:=zce hr (hn m hm).1 hf;simp only[fH] at h4;exact zEA hl h h2 h3 h4
   .rcases fM.mp hM.1 with e|hmem
    .exact zEG hl ht hml e
    .refine zb (fG.mp hmem) λb hb e=>?_;refine ze8 (hout b hb) λm hm hx hf e13_4 h3 h4=>?_;subst e13_4;have h5:=zfq hn hm hf;exact zEH hl e h3 h4 h5
end
theorem zky{r b:List zc}{m:Mt}(h:qd r m=some b):(∃x t,r=x::t/\x∈ze m)/\(∀y∈ze m,y∈r)/\b=zam r m:=by
 cases r with
 | nil=>cases h
 | cons x t=>
  unfold qd at h;dsimp only at h;split at h
  .rename_i hc;cases h;exact zp (zbw x t rfl hc.1) hc.2 rfl
  .cases h
theorem zdi(ms:List Mt):∀{r:List zc},Pack r ms (pk ms r):=by
 intro r
 induction hl:r.length using Nat.strongRecOn generalizing r with
 | _ n ih=>
  cases r with
  | nil=>rw[zjB];exact⟨(λm hm=>nomatch hm),(λm hm=>nomatch hm),.nil⟩
  | cons x t=>
   rw[fH] at hl;cases hg:kH ms (x::t) with
   | nil=>
    rw[zgs hg];have P:=ih t.length (zq7 hl) rfl;exact⟨P.sub,λm hm y hy=>fA _ (P.fit m hm y hy),P.dis⟩
   | cons z zs=>
    rw[zgt hg];refine zw (qm (ms:=ms) (r:=x::t) (z:=z) (by rw[hg];exact fB)) λ_ h2 h3 h4=>?_;have hlt:=j6 h2;rw[fH] at hlt;refine jb (zky h4) λ_ h5 h6=>?_;have P:=ih z.2.length (zxw hl hlt) rfl;refine⟨λm hm=>?_,λm hm y hy=>?_,gJ.mpr ⟨λm hm y hy hy'=>?_,P.dis⟩⟩
    .rcases fM.mp hm with rfl|hm
     .exact h3
     .exact P.sub m hm
    .rcases fM.mp hm with rfl|hm
     .exact h5 y hy
     .have:=P.fit m hm y hy;rw[h6] at this;exact(fU.mp this).1
    .have:=P.fit m hm y hy';rw[h6] at this;have:=(fU.mp this).2;simp[hy] at this
theorem zsz{ms:List Mt}(hn:∀m∈ms,kx m):∀{r:List zc},r.Nodup->(tot (pk ms r):Int)=r.length-ku ms r:=by
 intro r
 induction hl:r.length using Nat.strongRecOn generalizing r with
 | _ n ih=>
  intro hr;cases r with
  | nil=>rw[zjB,(zkA ms).nil];rw[pQ] at hl;subst hl;rfl
  | cons x t=>
   rw[fH] at hl;cases hg:kH ms (x::t) with
   | nil=>
    rw[zgs hg];have h1:=ih t.length (zq7 hl) rfl (fT.mp hr).2;have e:ku ms (x::t)=1+ku ms t:=by
     have hM:=(zkA ms).cons x t
     rcases fM.mp hM.1 with e|hmem
     .exact e
     .refine zb (fG.mp hmem) λb hb e=>?_;exfalso;refine zb (pU.mp hb) λm hm h1=>?_;have:(m,b)∈kH ms (x::t):=fU.mpr ⟨pU.mpr (zd m hm (by rw[h1];rfl)),Hz e⟩;rw[hg] at this;cases this
    rw[e];exact zEF hl h1
   | cons z zs=>
    rw[zgt hg];have hz:z∈kH ms (x::t):=by rw[hg];exact fB
    refine zw (qm hz) λ_ h2 h3 h4=>?_;have hlt:=j6 h2;rw[fH] at hlt;refine jb (zky h4) λ_ h5 h6=>?_;have h7:=zce hr (hn _ h3).1 h5;rw[<-h6,fH] at h7;have h8:=ih z.2.length (zxw hl hlt) rfl (by rw[h6];exact List.Nodup.sublist pL hr);have h9:ku ms z.2=ku ms (x::t):=H0 (fU.mp hz).2;have ht:tot (z.1::pk ms z.2)=szM z.1+tot (pk ms z.2):=rfl;rw[ht];exact zEL hl h7 h8 h9
theorem zqm{ms:List Mt}(hn:∀m∈ms,kx m){r:List zc}(hr:r.Nodup):tot (pk ms r)=jC ms r:=by
 have h1:=zsz hn hr;have h2:=zp0 (zkA ms) hn hr;exact zEK h1 h2
theorem znk{J:Type}{gs:List (List J)}(h:gs.flatten.Nodup){g g':List J}(hg:g∈gs)(hg':g'∈gs){x:J}(hx:x∈g)(hx':x∈g'):g=g':=by
 induction gs with
 | nil=>cases hg
 | cons g1 gs ih=>
  rw[fDF,gT] at h;refine jb h λh1 h2 h3=>?_
  rcases fM.mp hg with e|i
  .rcases fM.mp hg' with e'|i'
   .rw[e,e']
   .exact absurd rfl (h3 x (e▸hx) x (pG.mpr (zd g' i' hx')))
  .rcases fM.mp hg' with e'|i'
   .exact absurd rfl (h3 x (e'▸hx') x (pG.mpr (zd g i hx)))
   .exact ih h2 i i'
theorem zdQ(D:Led):D.grps.flatten.Nodup:=by unfold Led.grps;rw[qL];exact zcq _ _
theorem qS{D:Led}{g g':List zc}(hg:g∈D.grps)(hg':g'∈D.grps){x:zc}(hx:x∈g)(hx':x∈g'):g=g':=znk (zdQ D) hg hg' hx hx'
section
variable{D:Led}{s:Bool}{e:Ent}
theorem zkJ{es fs:List Ent}{span:Int}{G:List Tr}(hG:G∈zF (·.1) span (inO es fs)):G.Pairwise λa b=>zay a<=zay b:=by
 have h:G.Sublist (inO es fs):=by
  have:=fBV hG;rw[jf] at this;exact this
 exact(zgF zay (zbh es fs)).sublist h
theorem zdR(ho:LOk D)(ho':LOk (D.add s e))(h0:0<=D.span){g:List zc}(hg:g∈(D.add s e).grps)(hn:(s,((D.row s).length:Int))∉g):g∈D.grps:=by
 unfold Led.grps at hg ⊢;rw[kC] at hg;rw[zac] at hg ⊢;refine zb (fG.mp hg) λG' hG' e1_2=>?_;subst e1_2;have hn':((e.1,(s,((D.row s).length:Int))):Tr)∉G':=λh=>hn (fG.mpr (zd _ h rfl));obtain⟨x,hx'⟩:∃x,x∈G':=fB4 _ (zca G' hG');have hm:∀y,y∈inO (D.add s e).es (D.add s e).fs↔y∈inO D.es D.fs\/y=(e.1,(s,((D.row s).length:Int))):=λy=>zkD;have hxt:x∈inO D.es D.fs:=((hm x).mp (qJ hG' hx')).resolve_right λe=>hn' (e▸hx');refine zb (zf8 (f:=λt:Tr=>t.1) (span:=D.span) hxt) λG hG hx=>?_;have hs:=zdU ho.es ho.fs;have hs':=zdU ho'.es ho'.fs;have e1:∀y,y∈G'↔y∈G:=λy=>⟨zom h0 hs hs' hm hG hG' hx hx' hn' y,zft h0 hs hs' hm hG hG' hx hx' y⟩
 have:G'=G:=List.Perm.eq_of_pairwise (λa b ha hb h1 h2=>zh5 (qE ho'.es ho'.fs (inO_mem.mp (qJ hG' ha))).1 (qE ho.es ho.fs (inO_mem.mp (qJ hG hb))).1 (fAH h1 h2)) (zkJ hG') (zkJ hG) ((fC7 (zhW hG').1 (zhW hG).1).mpr e1);rw[this];exact fG.mpr (zd G hG rfl)
theorem zls(ho:LOk D)(ho':LOk (D.add s e))(h0:0<=D.span){g:List zc}(hg:g∈D.grps):∃g'∈(D.add s e).grps,∀y∈g,y∈g':=by
 unfold Led.grps at hg ⊢;rw[kC,zac];rw[zac] at hg;refine zb (fG.mp hg) λG hG e3_2=>?_;subst e3_2;obtain⟨x,hx⟩:∃x,x∈G:=fB4 _ (zca G hG);have hm:∀y,y∈inO (D.add s e).es (D.add s e).fs↔y∈inO D.es D.fs\/y=(e.1,(s,((D.row s).length:Int))):=λy=>zkD;refine zb (zf8 (f:=λt:Tr=>t.1) (span:=D.span) ((hm x).mpr (.inl (qJ hG hx)))) λG' hG' hx'=>?_;refine zd _ (fG.mpr (zd G' hG' rfl)) (λy hy=>?_);refine zb (fG.mp hy) λt ht e5_2=>?_;subst e5_2;exact fG.mpr (zd t (zft h0 (zdU ho.es ho.fs) (zdU ho'.es ho'.fs) hm hG hG' hx hx' t ht) rfl)
end
theorem za5{es:List Ent}{e:Ent}{p:Int}(h0:0<=p)(h1:p<es.length):z9 (es++[e]) p=z9 es p/\zv (es++[e]) p=zv es p:=by
 unfold z9 zv;have:p.toNat<es.length:=zxt h0 h1;rw[fQ,pC this,<-fQ];exact⟨rfl,rfl⟩
theorem zdg{f f':Int->Int}{l:List Int}(h:∀p∈l,f p=f' p):l.map f=l.map f':=gG h
theorem zkn{D:Led}{s:Bool}{e:Ent}{m:Mt}(h1:∀p∈m.1,0<=p/\p<D.es.length)(h2:∀p∈m.2,0<=p/\p<D.fs.length):zaI (D.add s e).es (D.add s e).fs (D.add s e).span m=zaI D.es D.fs D.span m:=by
 have a1:m.1.map (zv (D.add s e).es)=m.1.map (zv D.es)/\m.1.map (z9 (D.add s e).es)=m.1.map (z9 D.es):=by
  cases s with
  | false=>exact⟨zdg λp hp=>(za5 (h1 p hp).1 (h1 p hp).2).2,zdg λp hp=>(za5 (h1 p hp).1 (h1 p hp).2).1⟩
  | true=>exact⟨rfl,rfl⟩
 have a2:m.2.map (zv (D.add s e).fs)=m.2.map (zv D.fs)/\m.2.map (z9 (D.add s e).fs)=m.2.map (z9 D.fs):=by
  cases s with
  | false=>exact⟨rfl,rfl⟩
  | true=>exact⟨zdg λp hp=>(za5 (h2 p hp).1 (h2 p hp).2).2,zdg λp hp=>(za5 (h2 p hp).1 (h2 p hp).2).1⟩
 unfold zaI zaG;rw[a1.1,a1.2,a2.1,a2.2,kC]
theorem zdN{J β:Type}{f g:J->List β}{l:List J}(h:∀a∈l,f a=g a):l.flatMap f=l.flatMap g:=by
 induction l with
 | nil=>rfl
 | cons a l ih=>rw[fAP,fAP,h a fB,ih λb hb=>h b (fA _ hb)]
theorem ziI{fit fit':Mt->Bool}{as bs:List Int}(h:∀x:Mt,Up as x.1->Up bs x.2->fit x=fit' x):zmL fit as bs=zmL fit' as bs:=by
 unfold zmL;refine zdN λz _=>zdN λl hl=>?_;unfold qe;refine congrArg _ (fBB λr hr=>h (l,r) (mem_rowsN.mp hl).2 (mem_rowsN.mp hr).2)
theorem zqM{D:Led}{s:Bool}{e:Ent}{g:List zc}(h:∀m∈g,0<=m.2/\m.2<(D.row m.1).length):win (D.add s e).es (D.add s e).fs (D.add s e).span g=win D.es D.fs D.span g:=by
 unfold win;refine congrArg _ (ziI λx hx hy=>zkn (λp hp=>?_) λp hp=>?_)
 .exact h (false,p) (ups_mem.mp (hx.2 p hp))
 .exact h (true,p) (ups_mem.mp (hy.2 p hp))
theorem zlr{D:Led}{g:List zc}(hg:g∈D.grps){m:zc}(hm:m∈g):0<=m.2/\m.2<(D.row m.1).length:=by
 have:m∈(inO D.es D.fs).map (·.2):=by rw[<-qL D.es D.fs D.span];exact pG.mpr (zd g hg hm)
 refine zb (mem_inO.mp this) λk h1 h2=>?_;unfold Led.row;rw[h1];exact zwp h2
structure FitM(D:Led)(m:Mt):Prop where
 sm:SmM m
 r1:Rise m.1 D.es.length
 r2:Rise m.2 D.fs.length
 one:min m.1.length m.2.length=1
 fit:zaI D.es D.fs D.span m=true
structure Inv(D:Led):Prop where
 ok:LOk D
 lo:0<=D.span
 hi:D.span<=30
 few:∀g∈D.grps,g.length<=8
 whole:∀m∈D.tick,∃g∈D.grps,∀y∈ze m,y∈g
 apart:D.tick.Pairwise λa b=>∀y∈ze a,y∉ze b
 fits:∀m∈D.tick,FitM D m
 free:∀m∈D.tick,m∉D.clos
noncomputable def Led.able(D:Led)(g:List zc):List Mt:=(win D.es D.fs D.span g).filter λm=>!decide (m∈D.clos)
theorem FitM.go{D:Led}{m:Mt}(h:FitM D m):zlQ m:=by
 refine(zp h.sm (λe=>?_) (λe=>?_))<;>have:=h.one<;>rw[e,pQ] at this<;>simp at this
theorem mem_marks{m:Mt}{y:zc}:y∈ze m↔(y.1=false/\y.2∈m.1)\/(y.1=true/\y.2∈m.2):=by
 obtain⟨b,k⟩:=y;unfold ze;rw[fS,fG,fG];constructor
 .rintro(⟨x,hx,e⟩|⟨x,hx,e⟩)<;>cases e
  .exact .inl ⟨rfl,hx⟩
  .exact .inr ⟨rfl,hx⟩
 .rintro(⟨h1,h2⟩|⟨h1,h2⟩)
  .have h1:b=false:=h1;subst h1;exact .inl (zd k h2 rfl)
  .have h1:b=true:=h1;subst h1;exact .inr (zd k h2 rfl)
theorem kG{m:Mt}(h:zlQ m):ze m≠[]:=λe=>by
 have:=congrArg List.length e;unfold ze at this;rw[fF,fC,pQ] at this;exact h.2.1 (gZ.mp (zwi this))
theorem qR{m:Mt}(h:ze m≠[]):zZ m∈ze m:=by
 unfold zZ;cases hm:ze m with
 | nil=>exact absurd hm h
 | cons y l=>exact fB
theorem zer{l:List Int}{n:Int}(h:Rise l n):l.Nodup:=h.1.imp λh e=>zxs h e
theorem znj{D:Led}{m:Mt}(h:FitM D m):kx m:=by
 refine⟨?_,kG h.go⟩;unfold ze;rw[gT];refine zp (qY (zer h.r1) λa _ b _ e=>by cases e;rfl) (qY (zer h.r2) λa _ b _ e=>by cases e;rfl) (λa ha b hb e=>?_);refine zb (fG.mp ha) λx _ e1_2=>?_;subst e1_2;refine zb (fG.mp hb) λy _ e2_2=>?_;subst e2_2;cases e
theorem zb0{D:Led}{g:List zc}(hg:GOk g D.es.length D.fs.length){m:Mt}(h:m∈win D.es D.fs D.span g):FitM D m/\∀y∈ze m,y∈g:=by
 have h1:=(zU ..).mem_iff.mp h;refine qa (ziK hg h1) λa b c d e=>?_;refine⟨⟨a,b,c,d,e⟩,λy hy=>?_⟩;refine zb (pZ.mp h1) λz _ hz=>?_;refine qa (mem_bySz.mp hz) λ_ u1 _ u2 _=>?_;obtain⟨s,k⟩:=y
 rcases mem_marks.mp hy with⟨h2,h3⟩|⟨h2,h3⟩
 .have h2:s=false:=h2;subst h2;exact ups_mem.mp (u1.2 k h3)
 .have h2:s=true:=h2;subst h2;exact ups_mem.mp (u2.2 k h3)
theorem kB{D:Led}{g:List zc}{m:Mt}(h:m∈D.able g):m∈win D.es D.fs D.span g/\m∉D.clos:=by
 obtain⟨h1,h2⟩:=fU.mp h;exact⟨h1,by simpa using h2⟩
theorem zdP{D:Led}(h:LOk D){g:List zc}(hg:g∈D.grps)(h8:g.length<=8):GOk g D.es.length D.fs.length:=zkq hg h8 h.few
theorem zk0(D:Led)(s:Bool)(e:Ent):D.es.length<=(D.add s e).es.length/\D.fs.length<=(D.add s e).fs.length:=by
 cases s
 .exact⟨by show _<=(D.es++[e]).length;rw[fF];exact zj9,fO _⟩
 .exact⟨fO _,by show _<=(D.fs++[e]).length;rw[fF];exact zj9⟩
theorem zni{D:Led}{s:Bool}{e:Ent}{m:Mt}(h:FitM D m):FitM (D.add s e) m:=by
 have hl:=zk0 D s e;exact⟨h.sm,⟨h.r1.1,λp hp=>by have:=h.r1.2 p hp;exact zEy hl this⟩,⟨h.r2.1,λp hp=>by have:=h.r2.2 p hp;exact zEz hl this⟩,h.one,by rw[zkn h.r1.2 h.r2.2];exact h.fit⟩
theorem kD(D:Led)(s:Bool)(e:Ent):(D.add s e).tick=D.tick:=by cases s<;>rfl
theorem zds(D:Led)(s:Bool)(e:Ent):(D.add s e).clos=D.clos:=by cases s<;>rfl
section
variable{D:Led}{s:Bool}{e:Ent}{g:List zc}
theorem zsv(hg:g∈D.grps){m:Mt}(hw:∃g'∈D.grps,∀y∈ze m,y∈g')(hne:ze m≠[])(hf:zZ m∉g):∀y∈ze m,y∉g:=λy hy h=>by
 refine zb hw λg' h1 h2=>?_;rw[qS h1 hg (h2 y hy) h] at h2;exact hf (h2 _ (qR hne))
theorem zon(ho:LOk D)(lo:0<=D.span)(hi:D.span<=30)(few:∀g∈D.grps,g.length<=8)(whole:∀m∈D.tick,∃g∈D.grps,∀y∈ze m,y∈g)(apart:D.tick.Pairwise λa b=>∀y∈ze a,y∉ze b)(fits:∀m∈D.tick,FitM D m)(free:∀m∈D.tick,m∉D.clos)
  (hg:g∈D.grps)(tl:D.tick.length<=992):Inv (D.pick g):=by
 have h8:=few g hg;have hgo:=zdP ho hg h8;have P:=zdi (D.able g) (r:=g);refine⟨znV ho hgo tl,lo,hi,few,λm hm=>?_,?_,λm hm=>?_,λm hm=>?_⟩
 .rcases fS.mp hm with hm|hm
  .exact whole m (fU.mp hm).1
  .exact zd g hg (P.fit m hm)
 .refine gF.mpr (zp (apart.sublist pL) P.dis (λa ha b hb y hy hy'=>?_));obtain⟨h1,h2⟩:=fU.mp ha;exact zsv hg (whole a h1) (kG (fits a h1).go) (by simpa using h2) y hy (P.fit b hb y hy')
 .rcases fS.mp hm with hm|hm
  .have:=fits m (fU.mp hm).1;exact⟨this.sm,this.r1,this.r2,this.one,this.fit⟩
  .have:=(zb0 hgo (kB (P.sub m hm)).1).1;exact⟨this.sm,this.r1,this.r2,this.one,this.fit⟩
 .rcases fS.mp hm with hm|hm
  .exact free m (fU.mp hm).1
  .exact(kB (P.sub m hm)).2
theorem zpd(h:Inv D)(ho':LOk (D.add s e))(hg:g∈(D.add s e).grps)(hm:(s,((D.row s).length:Int))∈g)(h8:g.length<=8):∀g'∈(D.add s e).grps,g'.length<=8:=λg' hg'=>by
 by_cases hn:(s,((D.row s).length:Int))∈g'
 .rw[qS hg' hg hn hm];exact h8
 .exact h.few g' (zdR h.ok ho' h.lo hg' hn)
theorem zqn(h:Inv D)(ho':LOk (D.add s e))(hg:g∈(D.add s e).grps)(hm:(s,((D.row s).length:Int))∈g)(h8:g.length<=8)(tl:D.tick.length<=992):Inv ((D.add s e).pick g):=by
 refine zon ho' (by rw[kC];exact h.lo) (by rw[kC];exact h.hi) (zpd h ho' hg hm h8) ?_ ?_ ?_ ?_ hg (by rw[kD];exact tl)
 .intro m hm;rw[kD] at hm;refine zb (h.whole m hm) λg1 h1 h2=>?_;refine zb (zls (s:=s) (e:=e) h.ok ho' h.lo h1) λg2 h3 h4=>?_;exact zd g2 h3 (λy hy=>h4 y (h2 y hy))
 .rw[kD];exact h.apart
 .intro m hm;rw[kD] at hm;exact zni (h.fits m hm)
 .intro m hm;rw[kD] at hm;rw[zds];exact h.free m hm
end
noncomputable def Led.take(D:Led)(m:Mt):Led:={ D with tick:=D.tick.erase m,clos:=D.clos++[m] }
noncomputable def Led.again(D:Led):Led:={ D with tick:=D.grps.flatMap λg=>pk (D.able g) g }
def zcB(D:Led)(g:List zc):Prop:=(D.tick.filter λm=>decide (zZ m∈g))=pk (D.able g) g
theorem zmI{D:Led}{s:Bool}{e:Ent}{g:List zc}(hg:g∈D.grps):(D.add s e).able g=D.able g:=by
 unfold Led.able;rw[zqM λm hm=>zlr hg hm,zds]
theorem zcJ{J:Type}{p:J->Bool}{l:List J}(h:∀a∈l,p a=false):l.filter p=[]:=List.filter_eq_nil_iff.mpr λa ha=>by rw[h a ha];exact pK
theorem zdM{J:Type}{p:J->Bool}{l:List J}(h:∀a∈l,p a=true):l.filter p=l:=List.filter_eq_self.mpr h
section
variable{D:Led}{s:Bool}{e:Ent}{g g':List zc}
theorem zi0(ho:LOk D)(hg:g∈D.grps)(h8:g.length<=8):zcB (D.pick g) g:=by
 have P:=zdi (D.able g) (r:=g);have hgo:=zdP ho hg h8;show ((D.tick.filter λm=>!decide (zZ m∈g))++pk (D.able g) g).filter (λm=>decide (zZ m∈g))=pk (D.able g) g;rw[fCD,fC8,zcJ,fA6,zdM]
 .intro m hm;exact Hz (P.fit m hm _ (qR (kG (zb0 hgo (kB (P.sub m hm)).1).1.go)))
 .intro m _;cases decide (zZ m∈g)<;>rfl
theorem zgZ(ho:LOk D)(hg:g∈D.grps)(h8:g.length<=8)(hg':g'∈D.grps)(hne:g'≠g)(h:zcB D g'):zcB (D.pick g) g':=by
 have P:=zdi (D.able g) (r:=g);have hgo:=zdP ho hg h8;show ((D.tick.filter λm=>!decide (zZ m∈g))++pk (D.able g) g).filter (λm=>decide (zZ m∈g'))=pk (D.able g') g';rw[fCD,fC8];have e1:(pk (D.able g) g).filter (λm=>decide (zZ m∈g'))=[]:=zcJ λm hm=>Hy λhf=>by
  have:=P.fit m hm _ (qR (kG (zb0 hgo (kB (P.sub m hm)).1).1.go));exact hne (qS hg' hg hf this)
 rw[e1,gU,<-h];refine fBB λm _=>?_
 by_cases hf:zZ m∈g'
 .have:zZ m∉g:=λh=>hne (qS hg' hg hf h);simp[hf,this]
 .simp[hf]
theorem zlf(h:Inv D)(ho':LOk (D.add s e))(hg:g∈(D.add s e).grps)(hm:(s,((D.row s).length:Int))∈g)(h8:g.length<=8)(hg':g'∈(D.add s e).grps)(hc:g'≠g->zcB D g'):zcB ((D.add s e).pick g) g':=by
 by_cases hne:g'=g
 .rw[hne];exact zi0 ho' hg h8
 .refine zgZ ho' hg h8 hg' hne ?_;have hn:(s,((D.row s).length:Int))∉g':=λh=>hne (qS hg' hg h hm);have:=hc hne;unfold zcB at this ⊢;rw[kD,zmI (zdR h.ok ho' h.lo hg' hn)];exact this
end
theorem zjz{ms:List Mt}:∀{S:List Mt} {r:List zc},Pack r ms S->r.Nodup->(∀m∈S,kx m)->(r.filter λy=>!decide (y∈S.flatMap ze)).length+tot S=r.length:=by
 intro S
 induction S with
 | nil=>
  intro r P hr hn;rw[zdM λy _=>by simp]
  rfl
 | cons m S ih=>
  intro r P hr hn;have h1:=zce hr (hn m fB).1 (P.fit m fB);obtain⟨d1,d2⟩:=gJ.mp P.dis;have P':Pack (zam r m) ms S:=⟨λa ha=>P.sub a (fA _ ha),λa ha y hy=>fU.mpr ⟨P.fit a (fA _ ha) y hy,by simpa using zdB (d1 a ha) y hy⟩,d2⟩
  have h2:=ih P' (List.Nodup.sublist pL hr) λa ha=>hn a (fA _ ha);have e:(r.filter λy=>!decide (y∈(m::S).flatMap ze))=(zam r m).filter λy=>!decide (y∈S.flatMap ze):=by
   unfold zam;rw[fC8];refine fBB λy _=>?_;rw[fAP]
   by_cases h1:y∈ze m<;>by_cases h2:y∈S.flatMap ze<;>simp only[fS,h1,h2,or_self,or_true,true_or,decide_true,decide_false,fB6,fDX,fDG,fDV,Bool.and_self]
  have ht:tot (m::S)=szM m+tot S:=rfl;rw[e,ht];exact zER h1 h2
theorem zoW{D:Led}(h:Inv D){g:List zc}(hg:g∈D.grps){y:zc}(hy:y∈g):y∈D.told↔y∈(D.tick.filter λm=>decide (zZ m∈g)).flatMap ze:=by
 unfold Led.told;rw[pZ,pZ];constructor
 .intro hR1;refine zb hR1 λm hm hym=>?_;refine zd m (fU.mpr ⟨hm,Hz ?_⟩) hym;refine zb (h.whole m hm) λg1 h1 h2=>?_;rw[qS h1 hg (h2 y hym) hy] at h2;exact h2 _ (qR (kG (h.fits m hm).go))
 .intro hR2;refine zb hR2 λm hm hym=>?_;exact zd m ((fU.mp hm).1) hym
theorem kI{D:Led}{g:List zc}(hg:g∈D.grps):g.Nodup:=kr (zdQ D) hg
theorem ze1{D:Led}(h:Inv D){g:List zc}(hg:g∈D.grps):∀m∈D.able g,kx m:=λm hm=>znj (zb0 (zdP h.ok hg (h.few g hg)) (kB hm).1).1
theorem zd4{D:Led}(h:Inv D){g:List zc}(hg:g∈D.grps)(hc:zcB D g):(g.filter λy=>!decide (y∈D.told)).length+jC (D.able g) g=g.length:=by
 have P:=zdi (D.able g) (r:=g);have good:=ze1 h hg;have h1:=zjz P (kI hg) λm hm=>good m (P.sub m hm);rw[zqm good (kI hg)] at h1;have e:(g.filter λy=>!decide (y∈D.told))=g.filter λy=>!decide (y∈(pk (D.able g) g).flatMap ze):=by
  refine fBB λy hy=>?_;rw[decide_eq_decide.mpr ((zoW h hg hy).trans (by rw[hc]))]
 rw[e];exact h1
def Led.has(D:Led)(m:zc):Prop:=0<=m.2/\m.2<(D.row m.1).length
noncomputable def Led.ent(D:Led)(m:zc):Ent:=(D.row m.1).getD m.2.toNat (0,0)
structure Renum(D D':Led)(V ψ:zc->zc):Prop where
 has:∀m,D.has m->D'.has (V m)
 side:∀m,D.has m->(V m).1=m.1
 ent:∀m,D.has m->D'.ent (V m)=D.ent m
 back:∀m,D.has m->ψ (V m)=m
structure Iso(D D':Led):Prop where
 ex:∃V ψ,Renum D D' V ψ/\Renum D' D ψ V
 span:D.span=D'.span
theorem Iso.symm{D D':Led}(h:Iso D D'):Iso D' D:=by
 obtain⟨V,ψ,h1,h2⟩:=h.ex;exact⟨⟨ψ,V,h2,h1⟩,h.span.symm⟩
theorem Renum.trans{D D' D'':Led}{V ψ V' ψ':zc->zc}(h:Renum D D' V ψ)(h':Renum D' D'' V' ψ'):Renum D D'' (V'∘V) (ψ∘ψ') where
 has:=λm hm=>h'.has _ (h.has m hm)
 side:=λm hm=>(h'.side _ (h.has m hm)).trans (h.side m hm)
 ent:=λm hm=>(h'.ent _ (h.has m hm)).trans (h.ent m hm)
 back:=λm hm=>by show ψ (ψ' (V' (V m)))=m;rw[h'.back _ (h.has m hm),h.back m hm]
theorem Iso.trans{D D' D'':Led}(h:Iso D D')(h':Iso D' D''):Iso D D'':=by
 obtain⟨V,ψ,h1,h2⟩:=h.ex;obtain⟨V',ψ',h3,h4⟩:=h'.ex;exact⟨⟨_,_,h1.trans h3,h4.trans h2⟩,h.span.trans h'.span⟩
theorem Iso.same{D D':Led}(h1:D.es=D'.es)(h2:D.fs=D'.fs)(h3:D.span=D'.span):Iso D D':=by
 have hr:∀s,D.row s=D'.row s:=λs=>by cases s<;>assumption
 have e:∀m,D.has m↔D'.has m:=λm=>by unfold Led.has;rw[hr]
 have e2:∀m,D.ent m=D'.ent m:=λm=>by unfold Led.ent;rw[hr]
 exact⟨⟨id,id,⟨λm hm=>(e m).mp hm,λ_ _=>rfl,λm _=>(e2 m).symm,λ_ _=>rfl⟩,⟨λm hm=>(e m).mpr hm,λ_ _=>rfl,λm _=>e2 m,λ_ _=>rfl⟩⟩,h3⟩
noncomputable def zO(span:Int)(ps:List (Bool×Ent)):Led:=⟨(ps.filter λp=>!p.1).map (·.2),(ps.filter λp=>p.1).map (·.2),span,[],[]⟩
noncomputable def swp(s:Bool)(k:Int)(m:zc):zc:=if m.1=s then (if m.2=k then (s,k+1) else if m.2=k+1 then (s,k) else m) else m
theorem zin(s:Bool)(k:Int)(m:zc):(swp s k m).1=m.1:=by
 unfold swp;split
 .rename_i h;rw[<-h];split
  .rfl
  .split<;>rfl
 .rfl
theorem zoR(s:Bool)(k:Int)(m:zc):swp s k (swp s k m)=m:=by
 obtain⟨b,i⟩:=m;unfold swp
 by_cases hb:b=s
 .subst hb
  by_cases h1:i=k
  .subst h1;simp
  .by_cases h2:i=k+1
   .subst h2;simp[h1]
   .simp[h1,h2]
 .simp[hb]
theorem zoQ{Aa B:List Ent}{x y:Ent}{i:Nat}:(Aa++y::x::B).getD (if i=Aa.length then Aa.length+1 else if i=Aa.length+1 then Aa.length else i) (0,0)=(Aa++x::y::B).getD i (0,0):=by
 rw[fQ,fQ]
 by_cases h1:i=Aa.length
 .subst h1;rw[if_pos rfl,gI (by exact zsU),gI (by exact zqW)];simp
 .rw[if_neg h1]
  by_cases h2:i=Aa.length+1
  .subst h2;rw[if_pos rfl,gI (by exact zqW),gI (by exact zsU)];simp
  .rw[if_neg h2]
   by_cases h3:i<Aa.length
   .rw[pC h3,pC h3]
   .rw[gI (by exact zq0 h3),gI (by exact zq0 h3)];obtain⟨j,hj⟩:∃j,i-Aa.length=j+2:=⟨i-Aa.length-2,by exact zvp h1 h2 h3⟩
    rw[hj];rfl
theorem zan{D D':Led}{s:Bool}{Aa B:List Ent}{x y:Ent}(h1:D.row s=Aa++x::y::B)(h2:D'.row s=Aa++y::x::B)(h3:D.row (!s)=D'.row (!s)):Renum D D' (swp s Aa.length) (swp s Aa.length):=by
 have len:(D.row s).length=Aa.length+2+B.length/\(D'.row s).length=Aa.length+2+B.length:=by
  rw[h1,h2];simp only[fF,fH];exact zvr
 have oth:∀b,b≠s->D.row b=D'.row b:=λb hb=>by
  have:b = !s:=by cases b<;>cases s<;>first|rfl|exact absurd rfl hb
  rw[this];exact h3
 refine⟨λm hm=>?_,λm _=>zin _ _ m,λm hm=>?_,λm _=>zoR _ _ m⟩
 .obtain⟨b,i⟩:=m;obtain⟨m1,m2⟩:=hm;dsimp only at m1 m2
  by_cases hb:b=s
  .subst hb;unfold swp Led.has;dsimp only;rw[if_pos rfl];split
   .dsimp only;exact zvM len
   .split
    .dsimp only;exact zvN len
    .dsimp only;exact zuR m1 m2 len
  .unfold swp Led.has;dsimp only;rw[if_neg hb];dsimp only;rw[<-oth b hb];exact⟨m1,m2⟩
 .obtain⟨b,i⟩:=m;obtain⟨m1,m2⟩:=hm;dsimp only at m1 m2
  by_cases hb:b=s
  .subst hb;have hs:=zin b Aa.length (b,i);unfold Led.ent;rw[hs];dsimp only;rw[h1,h2,<-zoQ (Aa:=Aa) (x:=x) (y:=y) (i:=i.toNat)];refine congrArg (λk=>(Aa++y::x::B).getD k (0,0)) ?_;unfold swp;dsimp only;rw[if_pos rfl];split
   .rw[if_pos (by exact zuP (by assumption))];dsimp only;exact zEB
   .split
    .rw[if_neg (by exact zuO (by assumption)),if_pos (by exact zuN (by assumption))];dsimp only;exact zu4
    .rw[if_neg (by exact zuM m1 (by assumption)),if_neg (by exact zuQ (by assumption))]
  .have:swp s Aa.length (b,i)=(b,i):=by unfold swp;rw[if_neg hb]
   rw[this];unfold Led.ent;dsimp only;rw[oth b hb]
theorem znH(span:Int)(l1 l2:List (Bool×Ent))(p q:Bool×Ent):Iso (zO span (l1++p::q::l2)) (zO span (l1++q::p::l2)):=by
 obtain⟨b,x⟩:=p;obtain⟨c,y⟩:=q;cases b<;>cases c
 .have r1:=zan (D:=zO span (l1++(false,x)::(false,y)::l2)) (D':=zO span (l1++(false,y)::(false,x)::l2)) (s:=false) (Aa:=(l1.filter λp=>!p.1).map (·.2)) (B:=(l2.filter λp=>!p.1).map (·.2)) (x:=x) (y:=y) (by unfold zO Led.row;simp) (by unfold zO Led.row;simp) (by unfold zO Led.row;simp);have r2:=zan (D:=zO span (l1++(false,y)::(false,x)::l2)) (D':=zO span (l1++(false,x)::(false,y)::l2)) (s:=false) (Aa:=(l1.filter λp=>!p.1).map (·.2)) (B:=(l2.filter λp=>!p.1).map (·.2)) (x:=y) (y:=x) (by unfold zO Led.row;simp) (by unfold zO Led.row;simp) (by unfold zO Led.row;simp);exact⟨⟨_,_,r1,r2⟩,rfl⟩
 .exact .same (by unfold zO;simp) (by unfold zO;simp) rfl
 .exact .same (by unfold zO;simp) (by unfold zO;simp) rfl
 .have r1:=zan (D:=zO span (l1++(true,x)::(true,y)::l2)) (D':=zO span (l1++(true,y)::(true,x)::l2)) (s:=true) (Aa:=(l1.filter λp=>p.1).map (·.2)) (B:=(l2.filter λp=>p.1).map (·.2)) (x:=x) (y:=y) (by unfold zO Led.row;simp) (by unfold zO Led.row;simp) (by unfold zO Led.row;simp);have r2:=zan (D:=zO span (l1++(true,y)::(true,x)::l2)) (D':=zO span (l1++(true,x)::(true,y)::l2)) (s:=true) (Aa:=(l1.filter λp=>p.1).map (·.2)) (B:=(l2.filter λp=>p.1).map (·.2)) (x:=y) (y:=x) (by unfold zO Led.row;simp) (by unfold zO Led.row;simp) (by unfold zO Led.row;simp);exact⟨⟨_,_,r1,r2⟩,rfl⟩
theorem znG(span:Int){l l':List (Bool×Ent)}(h:l.Perm l'):∀l1,Iso (zO span (l1++l)) (zO span (l1++l')):=by
 induction h with
 | nil=>intro l1;exact .same rfl rfl rfl
 | cons x _ ih=>
  intro l1;have:=ih (l1++[x]);rw[gH,gH] at this;exact this
 | swap x y l=>intro l1;exact znH span l1 l y x
 | trans _ _ h1 h2=>intro l1;exact(h1 l1).trans (h2 l1)
theorem zhZ{l r:List Int}(h:l.Perm r):l.sum=r.sum:=by
 induction h with
 | nil=>rfl
 | cons x _ ih=>rw[fDI,fDI,ih]
 | swap x y l=>simp only[fDI];exact zuJ
 | trans _ _ h1 h2=>rw[h1,h2]
noncomputable def zcv(V:zc->zc)(m:Mt):Mt:=(srt Int.toNat (m.1.map λk=>(V (false,k)).2),srt Int.toNat (m.2.map λk=>(V (true,k)).2))
theorem marks_side{m:Mt}{s:Bool}{k:Int}:(s,k)∈ze m↔k∈(if s then m.2 else m.1):=by
 rw[mem_marks];cases s<;>simp
theorem zko{D:Led}{m:Mt}(h:FitM D m){y:zc}(hy:y∈ze m):D.has y:=by
 obtain⟨s,k⟩:=y;have:=marks_side.mp hy;cases s
 .exact h.r1.2 k this
 .exact h.r2.2 k this
section
variable{D D':Led}{V ψ:zc->zc}(R:Renum D D' V ψ){m:Mt}(h:FitM D m)
include R h
theorem zfo:(ze (zcv V m)).Perm ((ze m).map V):=by
 unfold ze zcv;dsimp only;rw[fW];have side:∀(s:Bool) (l:List Int),(∀k∈l,D.has (s,k))->((srt Int.toNat (l.map λk=>(V (s,k)).2)).map λk=>(s,k)).Perm ((l.map λk=>(s,k)).map V):=λs l hl=>by
  have p:=(zU Int.toNat (l.map λk=>(V (s,k)).2)).map λk=>(s,k)
  rw[gA] at p;rw[gA];have e:l.map ((λk=>(s,k))∘λk=>(V (s,k)).2)=l.map (V∘λk=>(s,k)):=gG λk hk=>by
   show (s,(V (s,k)).2)=V (s,k);have:=R.side _ (hl k hk);exact Prod.ext this.symm rfl
  rw[e] at p;exact p
 exact(side false m.1 λk hk=>h.r1.2 k hk).append (side true m.2 λk hk=>h.r2.2 k hk)
theorem zgj{y:zc}(hy:y∈ze (zcv V m)):∃z∈ze m,V z=y:=fG.mp ((zfo R h).mem_iff.mp hy)
omit h in
theorem zhL{s:Bool}{l:List Int}{n:Int}(hl:l.Pairwise (· < ·))(hh:∀k∈l,D.has (s,k))(hn:n=(D'.row s).length):Rise (srt Int.toNat (l.map λk=>(V (s,k)).2)) n:=by
 have nd:(l.map λk=>(V (s,k)).2).Nodup:=qY (hl.imp λh e=>by exact zxs h e) λa ha b hb e=>by
  have e1:V (s,a)=V (s,b):=Prod.ext ((R.side _ (hh a ha)).trans (R.side _ (hh b hb)).symm) e;have:=(R.back _ (hh a ha)).symm.trans ((congrArg ψ e1).trans (R.back _ (hh b hb)));exact congrArg Prod.snd this
 have p:=zU Int.toNat (l.map λk=>(V (s,k)).2);have rng:∀q∈srt Int.toNat (l.map λk=>(V (s,k)).2),0<=q/\q<n:=λq hq=>by
  obtain⟨k,hk,rfl⟩:=fG.mp (p.mem_iff.mp hq);have:=R.has _ (hh k hk);unfold Led.has at this;rw[R.side _ (hh k hk)] at this;rw[hn];exact this
 refine⟨?_,rng⟩;have nd':(srt Int.toNat (l.map λk=>(V (s,k)).2)).Nodup:=p.nodup_iff.mpr nd;have pw:=zgF Int.toNat (l.map λk=>(V (s,k)).2);exact(List.Pairwise.and pw nd').imp_of_mem λ{a b} ha hb hab=>by
  have h1:=rng a ha;have h2:=rng b hb;have h3:a.toNat<=b.toNat:=hab.1;have h4:a≠b:=hab.2;exact zuI hab h2
theorem zp5(h80:D'.es.length<=80/\D'.fs.length<=80)(hs:D.span=D'.span):FitM D' (zcv V m):=by
 have r1:=zhL R (s:=false) h.r1.1 (λk hk=>h.r1.2 k hk) (n:=D'.es.length) rfl;have r2:=zhL R (s:=true) h.r2.1 (λk hk=>h.r2.2 k hk) (n:=D'.fs.length) rfl;have p1:=zU Int.toNat (m.1.map λk=>(V (false,k)).2);have p2:=zU Int.toNat (m.2.map λk=>(V (true,k)).2);have l1:(zcv V m).1.length=m.1.length:=by
  show (srt Int.toNat (m.1.map λk=>(V (false,k)).2)).length=_;rw[p1.length_eq,fC]
 have l2:(zcv V m).2.length=m.2.length:=by
  show (srt Int.toNat (m.2.map λk=>(V (true,k)).2)).length=_;rw[p2.length_eq,fC]
 have c1:∀k∈m.1,zv D'.es (V (false,k)).2=zv D.es k/\z9 D'.es (V (false,k)).2=z9 D.es k:=λk hk=>by
  have hh:D.has (false,k):=h.r1.2 k hk;have e:=R.ent _ hh;unfold Led.ent at e;rw[R.side _ hh] at e;exact⟨congrArg Prod.snd e,congrArg Prod.fst e⟩
 have c2:∀k∈m.2,zv D'.fs (V (true,k)).2=zv D.fs k/\z9 D'.fs (V (true,k)).2=z9 D.fs k:=λk hk=>by
  have hh:D.has (true,k):=h.r2.2 k hk;have e:=R.ent _ hh;unfold Led.ent at e;rw[R.side _ hh] at e;exact⟨congrArg Prod.snd e,congrArg Prod.fst e⟩
 refine⟨⟨⟨by rw[l1];exact h.sm.1.1,λp hp=>by have:=r1.2 p hp;exact y99 h80 this⟩,⟨by rw[l2];exact h.sm.2.1,λp hp=>by have:=r2.2 p hp;exact zup h80 this⟩⟩,r1,r2,by rw[l1,l2];exact h.one,?_⟩;have hf:=h.fit;unfold zaI at hf ⊢;obtain⟨f1,f2⟩:=gO.mp hf;have f1:=H0 f1;have q1:((zcv V m).1.map (zv D'.es)).Perm (m.1.map (zv D.es)):=by
  have:=p1.map (zv D'.es);rw[gA] at this;have e:m.1.map (zv D'.es∘λk=>(V (false,k)).2)=m.1.map (zv D.es):=gG λk hk=>(c1 k hk).1;rw[e] at this;exact this
 have q2:((zcv V m).2.map (zv D'.fs)).Perm (m.2.map (zv D.fs)):=by
  have:=p2.map (zv D'.fs);rw[gA] at this;have e:m.2.map (zv D'.fs∘λk=>(V (true,k)).2)=m.2.map (zv D.fs):=gG λk hk=>(c2 k hk).1;rw[e] at this;exact this
 have d1:((zcv V m).1.map (z9 D'.es)).Perm (m.1.map (z9 D.es)):=by
  have:=p1.map (z9 D'.es);rw[gA] at this;have e:m.1.map (z9 D'.es∘λk=>(V (false,k)).2)=m.1.map (z9 D.es):=gG λk hk=>(c1 k hk).2;rw[e] at this;exact this
 have d2:((zcv V m).2.map (z9 D'.fs)).Perm (m.2.map (z9 D.fs)):=by
  have:=p2.map (z9 D'.fs);rw[gA] at this;have e:m.2.map (z9 D'.fs∘λk=>(V (true,k)).2)=m.2.map (z9 D.fs):=gG λk hk=>(c2 k hk).2;rw[e] at this;exact this
 refine gO.mpr ⟨Hz ?_,?_⟩
 .rw[zhZ q1,zhZ q2];exact f1
 .rw[<-hs];have pd:(zaG D'.es D'.fs (zcv V m)).Perm (zaG D.es D.fs m):=d1.append d2;unfold zdl at f2 ⊢;rw[fAA] at f2 ⊢;intro a ha;have:=f2 a (pd.mem_iff.mp ha);rw[fAA] at this ⊢;intro b hb;exact this b (pd.mem_iff.mp hb)
end
theorem zqO{D:Led}{g:List zc}{m:Mt}(h:FitM D m)(hg:∀y∈ze m,y∈g):m∈win D.es D.fs D.span g:=by
 refine(zU ..).mem_iff.mpr (pZ.mpr ⟨(m.1.length,m.2.length),?_,mem_bySz.mpr ⟨rfl,⟨h.r1.1,λp hp=>ups_mem.mpr (hg (false,p) (marks_side.mpr hp))⟩,rfl,⟨h.r2.1,λp hp=>ups_mem.mpr (hg (true,p) (marks_side.mpr hp))⟩,h.fit⟩⟩);have h1:m.1.length<=3:=h.sm.1.1;have h2:m.2.length<=3:=h.sm.2.1;have h3:=h.one;have h4:(m.1.length=1/\1<=m.2.length)\/(m.2.length=1/\1<=m.1.length):=by exact zu7 h3
 unfold szs
 rcases h4 with⟨e,h5⟩|⟨e,h5⟩
 .rw[e];have:m.2.length=1\/m.2.length=2\/m.2.length=3:=by exact zrF h2 h5
  rcases this with e|e|e<;>rw[e]<;>decide
 .rw[e];have:m.1.length=1\/m.1.length=2\/m.1.length=3:=by exact zrF h1 h5
  rcases this with e|e|e<;>rw[e]<;>decide
theorem zhQ{D D':Led}{V ψ:zc->zc}(R:Renum D D' V ψ)(I:Inv D)(I':Inv D')(hs:D.span=D'.span)(hc:D'.clos=[]){g g':List zc}(hg:g∈D.grps)(hg':g'∈D'.grps)(hgg:∀y∈g,V y∈g'):jC (D.able g) g<=jC (D'.able g') g':=by
 obtain⟨S,P,h⟩:=zb1 (D.able g) g;have hgo:=zdP I.ok hg (I.few g hg);have fit:∀m∈S,FitM D m:=λm hm=>(zb0 hgo (kB (P.sub m hm)).1).1;have ht:tot (S.map (zcv V))=tot S:=by
  unfold tot;rw[gA];refine congrArg _ (gG λm hm=>?_);show (ze (zcv V m)).length=(ze m).length;rw[(zfo R (fit m hm)).length_eq,fC]
 rw[<-h,<-ht];refine zb2 _ _ _ (λm hm=>(ze1 I' hg' m hm).2) ⟨λm hm=>?_,λm hm y hy=>?_,?_⟩
 .obtain⟨m0,h0,rfl⟩:=fG.mp hm;refine fU.mpr ⟨zqO (zp5 R (fit m0 h0) I'.ok.few hs) λy hy=>?_,by rw[hc];rfl⟩;obtain⟨z,hz,rfl⟩:=zgj R (fit m0 h0) hy;exact hgg z (P.fit m0 h0 z hz)
 .obtain⟨m0,h0,rfl⟩:=fG.mp hm;obtain⟨z,hz,rfl⟩:=zgj R (fit m0 h0) hy;exact hgg z (P.fit m0 h0 z hz)
 .refine fAD.mpr (P.dis.imp_of_mem λ{a b} ha hb hd y hy hy'=>?_);obtain⟨z,hz,rfl⟩:=zgj R (fit a ha) hy;obtain⟨z',hz',e⟩:=zgj R (fit b hb) hy';have:=(R.back _ (zko (fit b hb) hz')).symm.trans ((congrArg ψ e).trans (R.back _ (zko (fit a ha) hz)));rw[this] at hz';exact hd z hz hz'
theorem trs_mem{D:Led}{t:Tr}:t∈D.trs↔D.has t.2/\(D.ent t.2).1=t.1:=by
 obtain⟨d,b,k⟩:=t;unfold Led.trs Led.has Led.ent;rw[inO_mem];unfold zbh km;rw[fS,fG,fG];constructor
 .rintro(⟨i,hi,e⟩|⟨i,hi,e⟩)<;>have hi:=gV.mp hi<;>cases e
  .exact⟨⟨pA i,by show (i:Int)<(D.es.length:Int);exact zrH hi⟩,rfl⟩
  .exact⟨⟨pA i,by show (i:Int)<(D.fs.length:Int);exact zrH hi⟩,rfl⟩
 .rintro⟨⟨h1,h2⟩,h3⟩;dsimp only at h1 h2 h3;have hk:((k.toNat:Nat):Int)=k:=fAQ h1;cases b
  .refine .inl ⟨k.toNat,gV.mpr ?_,?_⟩
   .have h2:k<(D.es.length:Int):=h2;exact zrB hk h2
   .rw[hk,<-h3];rfl
  .refine .inr ⟨k.toNat,gV.mpr ?_,?_⟩
   .have h2:k<(D.fs.length:Int):=h2;exact zrB hk h2
   .rw[hk,<-h3];rfl
theorem za8{J β:Type}{f:J->Int}{f':β->Int}{span:Int}{S:List J}{S':List β}(h1:∀x∈S,∃y∈S',f' y=f x)(h2:∀y∈S',∃x∈S,f x=f' y){a b:Int}(h:zbl f span S a b):zbl f' span S' a b:=λy hy k1 k2=>by
 obtain⟨x,hx,e⟩:=h2 y hy;obtain⟨z,hz,k3,k4⟩:=h x hx (by exact y68 k1 e) (by exact zxo k2 e);obtain⟨w,hw,e2⟩:=h1 z hz;exact⟨w,hw,by exact zuK e k3 e2,by exact zuL e k4 e2⟩
theorem zpk{D:Led}(I:Inv D){ds:List Int}(hs:ds.Pairwise (λa b=>a<=b))(h1:∀d,d∈ds↔∃m,D.has m/\(D.ent m).1=d){T:List Int}(hT:T∈zF id D.span ds):∃g∈D.grps,∀m,m∈g↔D.has m/\(D.ent m).1∈T:=by
 obtain⟨d,hd⟩:=fB4 _ (zca T hT);obtain⟨m0,hm0,e0⟩:=(h1 d).mp (qJ hT hd);have ht0:(d,m0)∈D.trs:=trs_mem.mpr ⟨hm0,e0⟩;obtain⟨G,hG,hin⟩:=zf8 (f:=λt:Tr=>t.1) (span:=D.span) ht0;have pw:=zdU I.ok.es I.ok.fs;have a1:∀x∈D.trs,∃y∈ds,id y=x.1:=λx hx=>⟨x.1,(h1 x.1).mpr ⟨x.2,trs_mem.mp hx⟩,rfl⟩
 have a2:∀y∈ds,∃x∈D.trs,x.1=id y:=λy hy=>by
  obtain⟨m,hm,e⟩:=(h1 y).mp hy;exact⟨(y,m),trs_mem.mpr ⟨hm,e⟩,rfl⟩
 have key:∀y∈D.trs,y∈G↔y.1∈T:=λy hy=>by
  have hyd:y.1∈ds:=(h1 y.1).mpr ⟨y.2,trs_mem.mp hy⟩
  rcases fCZ d y.1 with hle|hle
  .rw[qg I.lo pw rfl hG hin hy hle,qg (f:=id) I.lo hs rfl hT hd hyd hle];exact⟨za8 a1 a2,za8 (λx hx=>(a2 x hx).imp λ_ h=>h) λy hy=>(a1 y hy).imp λ_ h=>h⟩
  .rw[qo I.lo pw hG hin hy hle,qo (f:=id) I.lo hs hT hd hyd hle];exact⟨za8 a1 a2,za8 (λx hx=>(a2 x hx).imp λ_ h=>h) λy hy=>(a1 y hy).imp λ_ h=>h⟩
 refine⟨G.map (·.2),by unfold Led.grps;rw[zac];exact fG.mpr ⟨G,hG,rfl⟩,λm=>⟨λhm=>?_,λhm=>?_⟩⟩
 .obtain⟨t,ht,rfl⟩:=fG.mp hm;have htt:t∈D.trs:=qJ hG ht;obtain⟨k1,k2⟩:=trs_mem.mp htt;exact⟨k1,by rw[k2];exact(key t htt).mp ht⟩
 .have htt:((D.ent m).1,m)∈D.trs:=trs_mem.mpr ⟨hm.1,rfl⟩;exact fG.mpr ⟨_,(key _ htt).mpr hm.2,rfl⟩
theorem zkS{l r:List zc}(hn:l.Nodup)(h:∀x∈l,x∈r):l.length<=r.length:=by
 induction l generalizing r with
 | nil=>exact fV _
 | cons x l ih=>
  have hn:=fT.mp hn;have hx:=h x fB;have:=ih (r:=r.erase x) hn.2 λy hy=>(fCU λe=>hn.1 (by rw[<-e];exact hy)).mpr (h y (fA _ hy));rw[fB8 hx] at this;have:=fA2 hx;rw[fH];exact ztj (by assumption) this
noncomputable def Led.freeIn(D:Led)(T:List Int)(s:Bool):List Nat:=(D.left s).filter λi=>decide ((D.ent (s,(i:Int))).1∈T)
noncomputable def Led.cnt(D:Led)(T:List Int):Nat:=(D.freeIn T false).length+(D.freeIn T true).length
theorem mem_free{D:Led}{T:List Int}{s:Bool}{i:Nat}:i∈D.freeIn T s↔(D.has (s,(i:Int))/\(s,(i:Int))∉D.told)/\(D.ent (s,(i:Int))).1∈T:=by
 unfold Led.freeIn Led.left Led.has;rw[fU,fU,gV,decide_eq_true_iff];refine and_congr_left λ_=>and_congr ?_ ?_
 .exact⟨λh=>⟨pA i,fAI.mpr h⟩,λh=>fAI.mp h.2⟩
 .by_cases h:(s,(i:Int))∈D.told
  .rw[Hz h];exact⟨(λe=>nomatch e),λq=>absurd h q⟩
  .rw[Hy h];exact⟨λ_=>h,λ_=>rfl⟩
theorem zdO(D:Led)(T:List Int)(s:Bool):((D.freeIn T s).map λi:Nat=>((s,(i:Int)):zc)).Nodup:=
 qY (List.Nodup.sublist (pL.trans pL) fDM) λa _ b _ e=>Int.ofNat.inj (congrArg Prod.snd e)
theorem zkg{D:Led}(I:Inv D){g:List zc}(hg:g∈D.grps){T:List Int}(h:∀m,m∈g↔D.has m/\(D.ent m).1∈T):D.cnt T=(g.filter λy=>!decide (y∈D.told)).length:=by
 have nd:(((D.freeIn T false).map λi:Nat=>((false,(i:Int)):zc))++(D.freeIn T true).map λi:Nat=>((true,(i:Int)):zc)).Nodup:=by
  refine gT.mpr ⟨zdO D T false,zdO D T true,λa ha b hb e=>?_⟩;obtain⟨i,_,rfl⟩:=fG.mp ha;obtain⟨j,_,rfl⟩:=fG.mp hb;cases e
 have ng:(g.filter λy=>!decide (y∈D.told)).Nodup:=List.Nodup.sublist pL (kI hg);have mem:∀y,y∈((D.freeIn T false).map λi:Nat=>((false,(i:Int)):zc))++(D.freeIn T true).map (λi:Nat=>((true,(i:Int)):zc))↔y∈g.filter λy=>!decide (y∈D.told):=λy=>by
  have side:∀s,y∈(D.freeIn T s).map (λi:Nat=>((s,(i:Int)):zc))↔y.1=s/\y∈g.filter λy=>!decide (y∈D.told):=λs=>by
   rw[fG,fU,h,fBQ,decide_eq_false_iff_not];constructor
   .rintro⟨i,hi,rfl⟩;obtain⟨⟨h1,h2⟩,h3⟩:=mem_free.mp hi;exact⟨rfl,⟨h1,h3⟩,h2⟩
   .rintro⟨rfl,⟨h1,h2⟩,h3⟩;have e:((y.2.toNat:Nat):Int)=y.2:=fAQ h1.1;refine⟨y.2.toNat,mem_free.mpr ?_,by rw[e]⟩;rw[e];exact⟨⟨h1,h3⟩,h2⟩
  rw[fS,side,side];cases hy:y.1 with
  | false=>exact⟨λq=>q.elim (λq=>q.2) (λq=>nomatch q.1),λq=>.inl ⟨rfl,q⟩⟩
  | true=>exact⟨λq=>q.elim (λq=>nomatch q.1) λq=>q.2,λq=>.inr ⟨rfl,q⟩⟩
 have:=((fC7 nd ng).mpr mem).length_eq;rw[fF,fC,fC] at this;exact this
structure PutI(D:Led)(span:Int)(ps:List (Bool×Ent)):Prop where
 es:D.es=(zO span ps).es
 fs:D.fs=(zO span ps).fs
 sp:D.span=span
 clos:D.clos=[]
 I:Inv D
 clean:∀g∈D.grps,zcB D g
theorem PutI.iso{D:Led}{span:Int}{ps:List (Bool×Ent)}(h:PutI D span ps):Iso D (zO span ps):=.same h.es h.fs h.sp
theorem PutI.row{D:Led}{span:Int}{ps:List (Bool×Ent)}(h:PutI D span ps)(s:Bool):D.row s=(ps.filter λp=>p.1==s).map (·.2):=by
 cases s with
 | false=>
  refine h.es.trans (congrArg (List.map _) (fBB λp _=>?_));cases p.1<;>rfl
 | true=>
  refine h.fs.trans (congrArg (List.map _) (fBB λp _=>?_));cases p.1<;>rfl
theorem PutI.days{D:Led}{span:Int}{ps:List (Bool×Ent)}(h:PutI D span ps)(d:Int):d∈ps.map (λp=>p.2.1)↔∃m,D.has m/\(D.ent m).1=d:=by
 constructor
 .intro hd;obtain⟨p,hp,rfl⟩:=fG.mp hd;have hm:p.2∈D.row p.1:=by rw[h.row];exact fG.mpr ⟨p,fU.mpr ⟨hp,beq_self_eq_true _⟩,rfl⟩
  obtain⟨i,hi,e⟩:=fB5 hm;refine⟨(p.1,(i:Int)),⟨pA i,fAI.mpr hi⟩,?_⟩;show ((D.row p.1).getD i (0,0)).1=_;rw[fQ,fJ hi,<-e];rfl
 .rintro⟨m,⟨h0,h1⟩,rfl⟩;have hi:m.2.toNat<(D.row m.1).length:=by exact zxt h0 h1
  have hm:D.ent m∈D.row m.1:=by
   unfold Led.ent;rw[fQ,fJ hi];exact fAK hi
  rw[h.row] at hm;obtain⟨p,hp,e⟩:=fG.mp hm;exact fG.mpr ⟨p,(fU.mp hp).1,congrArg Prod.fst e⟩
theorem PutI.grp{D:Led}{span:Int}{ps:List (Bool×Ent)}(h:PutI D span ps){ys:List Int}(hy:ys.Pairwise (· < ·))(hm:∀k,k∈ys↔k∈ps.map (λp=>p.2.1)){T:List Int}(hT:T∈zF id span ys):∃g∈D.grps,∀m,m∈g↔D.has m/\(D.ent m).1∈T:=
 zpk h.I (hy.imp λh=>fC2 h) (λd=>(hm d).trans (h.days d)) (by rw[h.sp];exact hT)
theorem zkv{D D':Led}{V ψ:zc->zc}(R:Renum D D' V ψ){g g':List zc}{T:List Int}(h:∀m,m∈g↔D.has m/\(D.ent m).1∈T)(h':∀m,m∈g'↔D'.has m/\(D'.ent m).1∈T):∀y∈g,V y∈g':=λy hy=>by
 have hy:=(h y).mp hy;exact(h' _).mpr ⟨R.has y hy.1,by rw[R.ent y hy.1];exact hy.2⟩
theorem zkw{D D':Led}{V ψ:zc->zc}(R:Renum D D' V ψ){g g':List zc}(hn:g.Nodup)(hh:∀m∈g,D.has m)(hg:∀y∈g,V y∈g'):g.length<=g'.length:=by
 rw[<-fC (f:=V)];refine zkS (qY hn λa ha b hb e=>?_) λx hx=>?_
 .exact(R.back a (hh a ha)).symm.trans ((congrArg ψ e).trans (R.back b (hh b hb)))
 .obtain⟨y,hy,rfl⟩:=fG.mp hx;exact hg y hy
theorem zm9{D D':Led}{span:Int}{ps qs:List (Bool×Ent)}(h:PutI D span ps)(h':PutI D' span qs)(hp:ps.Perm qs){ys:List Int}(hy:ys.Pairwise (· < ·))(hm:∀k,k∈ys↔k∈ps.map (λp=>p.2.1)){T:List Int}(hT:T∈zF id span ys):D.cnt T=D'.cnt T:=by
 obtain⟨g,hg,k⟩:=h.grp hy hm hT;obtain⟨g',hg',k'⟩:=h'.grp hy (λd=>(hm d).trans (hp.map _).mem_iff) hT;have iso:Iso D D':=h.iso.trans ((znG span hp []).trans h'.iso.symm);obtain⟨V,ψ,R,R'⟩:=iso.ex;have s1:=zkv R k k';have s2:=zkv R' k' k;have m1:=zhQ R h.I h'.I (h.sp.trans h'.sp.symm) h'.clos hg hg' s1;have m2:=zhQ R' h'.I h.I (h'.sp.trans h.sp.symm) h.clos hg' hg s2;have l1:=zkw R (kI hg) (λm hm=>((k m).mp hm).1) s1;have l2:=zkw R' (kI hg') (λm hm=>((k' m).mp hm).1) s2;have c1:=zd4 h.I hg (h.clean g hg);have c2:=zd4 h'.I hg' (h'.clean g' hg');rw[zkg h.I hg k,zkg h'.I hg' k'];exact zvV m1 m2 l1 l2 c1 c2
theorem zpV(span:Int)(ps:List (Bool×Ent))(s:Bool)(e:Ent):(zO span (ps++[(s,e)])).es=((zO span ps).add s e).es/\(zO span (ps++[(s,e)])).fs=((zO span ps).add s e).fs:=by
 unfold zO Led.add;dsimp only;rw[fCD,fCD,fW,fW];cases s
 .exact⟨rfl,gU _⟩
 .exact⟨gU _,rfl⟩
theorem zrK{D E:Led}(h1:D.es=E.es)(h2:D.fs=E.fs)(s:Bool)(e:Ent):(D.add s e).es=(E.add s e).es/\(D.add s e).fs=(E.add s e).fs:=by
 cases s
 .exact⟨congrArg (·++[e]) h1,h2⟩
 .exact⟨h1,congrArg (·++[e]) h2⟩
theorem PutI.put{D:Led}{span:Int}{ps:List (Bool×Ent)}(h:PutI D span ps){s:Bool}{e:Ent}(ho:LOk (D.add s e)){g:List zc}(hg:g∈(D.add s e).grps)(hm:(s,((D.row s).length:Int))∈g)(h8:g.length<=8)(tl:D.tick.length<=992):PutI ((D.add s e).pick g) span (ps++[(s,e)]):=by
 have a:=zrK h.es h.fs s e;have b:=zpV span ps s e;refine⟨a.1.trans b.1.symm,a.2.trans b.2.symm,(kC D s e).trans h.sp,(zds D s e).trans h.clos,zqn h.I ho hg hm h8 tl,λg' hg'=>?_⟩;refine zlf h.I ho hg hm h8 hg' λhne=>?_;exact h.clean g' (zdR h.I.ok ho h.I.lo hg' λq=>hne (qS hg' hg q hm))
section
variable{P:Hk}{X:Cx}{n:Nat}{Q:zk}{Z:XP}{O:AHeap}
theorem zg8{J:Type}(f:J->AV)(xs:List J)(k:Nat):zbP k (xs.map f)=(xs.zipIdx k).map λp=>AV.tup [.int (p.2:Nat),f p.1]:=by
 induction xs generalizing k with
 | nil=>rfl
 | cons x xs ih=>rw[gM,zbP,ih,fB2,gM]
theorem GrpAt.vI{f:zc->AV}{O':AHeap}{p r q p':Addr}{gs:List (List zc)}{rs:List Addr}(h2:Hold O' rs (gs.map λg=>g.map f))(h3:rs.Nodup)(h4:∀a∈rs,O a=none)(hs:Sub O O')(hr:O' r=none)(hq:(O'.set r (.list [])) q=none)(hp:((O'.set r (.list [])).set q (.list [.ref r])) p'=none) :
  GrpAt f O (((O'.set r (.list [])).set q (.list [.ref r])).set p' (.list (rs.map .ref++[.ref r]))) p' (gs++[[]]):=by
 have hq':O' q=none/\q≠r:=by
  by_cases e:q=r
  .rw[e,AHeap.wA] at hq;cases hq
  .rw[AHeap.wB _ _ e] at hq;exact⟨hq,e⟩
 have hp':O' p'=none/\p'≠r/\p'≠q:=by
  by_cases e:p'=q
  .rw[e,AHeap.wA] at hp;cases hp
  .rw[AHeap.wB _ _ e] at hp
   by_cases e':p'=r
   .rw[e',AHeap.wA] at hp;cases hp
   .rw[AHeap.wB _ _ e'] at hp;exact zp hp e' e
 have nin:∀{x:Addr},O' x=none->x∉rs:=λhx h=>h2.some h hx;have hf:∀{x:Addr},O' x=none->O x=none:=λhx=>hs.none hx;refine⟨(jU (rs++[r]) ?_ ?_ ?_ ?_),λa o e=>?_⟩
 .rw[AHeap.wA,fW];rfl
 .rw[fW];refine Hold.snoc ?_ (((h2.set (nin hr)).set (nin hq'.1)).set (nin hp'.1));rw[AHeap.wB _ _ hp'.2.1.symm,AHeap.wB _ _ hq'.2.symm];exact AHeap.wA ..
 .refine fT.mpr ⟨λh=>?_,gT.mpr (zp h3 (fT.mpr ⟨gQ,.nil⟩) (λa ha b hb e=>?_))⟩
  .rcases fS.mp h with h|h
   .exact nin hp'.1 h
   .exact hp'.2.1 (fP.mp h)
  .rw[fP.mp hb] at e;exact nin hr (e▸ha)
 .intro a ha
  rcases fM.mp ha with rfl|ha
  .exact hf hp'.1
  .rcases fS.mp ha with ha|ha
   .exact h4 _ ha
   .rw[fP.mp ha];exact hf hr
 .have:=hs a o e;rw[AHeap.wB _ _ (by rintro rfl;rw[hp'.1] at this;cases this),AHeap.wB _ _ (by rintro rfl;rw[hq'.1] at this;cases this),AHeap.wB _ _ (by rintro rfl;rw[hr] at this;cases this)];exact this
theorem znm{span:Int}(ts:List Tr)(t:Tr)(b:List (List zc)×Option Int):((ts++[t]).foldl (jQ span) b).2=some t.1:=by rw[fDE];rfl
theorem zeE{J:Type}{l:List J}{k:Nat}{x:J}(h:l[k]? = some x):l.take (k+1)=l.take k++[x]:=by rw[fAN,h];rfl
end
section
variable{P:Hk}{X:Cx}{n:Nat}{Q:zk}{Z:XP}{O:AHeap}
noncomputable def q9(p:Bool×Ent):AV:=.tup [.str p.1.toNat,.int p.2.1,.int p.2.2]
noncomputable def dT(y:Int):Tr:=(y,(false,y))
noncomputable def fI(m:zc):AV:=.int m.2
noncomputable def pdL(x0:AV)(span:Int)(ys:List Int)(p:Addr)(u w:Option AV):Loc:=[some x0,some (.int span),some (.lst (ys.map .int)),some (.ref p),u,w]
def zn4:AS:=(Gb (Gw (G0 jJ (Gg (Ga 3) (G4 (Gc (.int 1)))) [Ga 5])) Ge)
structure PdS(O:AHeap)(span:Int)(ys:List Int)(xs:List (Int×Nat))(b:List (List zc)×Option Int)(k:Nat)(p:Addr)(O':AHeap):Prop where
 hxs:xs=(ys.drop k).zipIdx k
 hk:k<=ys.length
 hb:b=((ys.take k).map dT).foldl (jQ span) ([],none)
 ne:k=0\/b.1≠[]
 gr:GrpAt fI O O' p b.1
 n1:b.1.length<=k
 n2:∀g∈b.1,g.length<=k
def PdI(O:AHeap)(x0:AV)(span:Int)(ys:List Int)(xs:List (Int×Nat))(b:List (List zc)×Option Int)(l:Loc)(O':AHeap):Prop:=∃k p u w,l=pdL x0 span ys p u w/\PdS O span ys xs b k p O'
section
variable{x0:AV}{span:Int}{ys:List Int}{xs:List (Int×Nat)}{b:List (List zc)×Option Int}{I:AHeap->Prop}{K:Loc->AHeap->Prop}{S:zN}{k:Nat}{y:Int}{O':AHeap}
theorem zkK{d:Dp}{gs:List (List zc)}{p:Addr}{u:Option AV}(hI:∀O,I O)(hk:k<1000)(h:GrpAt fI O O' p gs)(hne:gs≠[])(h1:gs.length<=k+1)(h2:∀g∈gs,g.length<k+1)
  (hK:∀l O',GrpAt fI O O' p (zR gs (dT y).2)->zR gs (dT y).2≠[]->(zR gs (dT y).2).length<=k+1->(∀g∈zR gs (dT y).2,g.length<=k+1)->l=pdL x0 span ys p u (some (.int y))->K l O'):zn4 d (pdL x0 span ys p u (some (.int y))) (Gy I K S) Gz O':=by
 refine za6 (h.last hne) λzs r g k1 k2 k3 k4=>?_;have hf:=zgM hne h1 h2 (m:=(dT y).2);have hg:=h2 g k3;refine jj k1 (zi (zfN _ _) (zL k2 (zL k2 (zV (by rw[fC];exact fE hg (fE hk (by decide))) ?_))));exact⟨hI _,hK _ _ (k4 (dT y).2) hf.1 hf.2.1 hf.2.2 rfl⟩
theorem zqk{d:Nat}(hT:ys.length<=900){x:Int×Nat}{l:Loc}(hI:∀O,I O)(h:PdI O x0 span ys (x::xs) b l O')(hK:∀l' O',PdI O x0 span ys xs (jQ span b (dT x.1)) l' O'->K l' O'):∃l',jP (.many [4,5]) (.tup [.int (x.2:Nat),.int x.1]) l=some l'/\zcT X ⟨d,false⟩ l' (Gy I K S) Gz O':=by
 obtain⟨k,p,u,w,el,H⟩:=h;subst el;have hlt:k<ys.length:=by
  refine fCB H.hk λe=>?_;have:=H.hxs;rw[e,fBZ] at this;cases this
 obtain⟨ex,exs⟩:x=(ys.getD k 0,k)/\xs=(ys.drop (k+1)).zipIdx (k+1):=by
  have hxs:=H.hxs;rw[pB hlt,fB2] at hxs;have:=List.cons.inj hxs;exact⟨by rw[this.1,fQ,fJ hlt];rfl,this.2⟩
 subst ex;have ht:ys[k]? = some (ys.getD k 0):=ji hlt;have hn:=zhT H.n1 H.n2;have hk9:k<1000:=gP hlt (fE hT (by decide));refine zd _ rfl ?_;have fin:∀gs p l σ2,gs=(if zbo span b.2 (dT (ys.getD k 0)).1 then b.1++[[]] else b.1)->GrpAt fI O σ2 p (zR gs (dT (ys.getD k 0)).2)->zR gs (dT (ys.getD k 0)).2≠[]->(zR gs (dT (ys.getD k 0)).2).length<=k+1->(∀g∈zR gs (dT (ys.getD k 0)).2,g.length<=k+1)->l=pdL x0 span ys p (some (.int (k:Nat))) (some (.int (ys.getD k 0)))->K l σ2:=λgs p l σ2 e g1 g2 g3 g4 g5=>by
  subst e;exact hK _ _ ⟨k+1,p,_,_,g5,exs,hlt,by rw[zeE ht,fW,fDE,<-H.hb];rfl,.inr g2,g1,g3,g4⟩
 have opn:zbo span b.2 (dT (ys.getD k 0)).1=true->∀r,O' r=none->∀q',(O'.set r (.list [])) q'=none->zm (zS ((O'.set r (.list [])).set q' (.list [.ref r])) (.ref p)) λxs=>zm (zS ((O'.set r (.list [])).set q' (.list [.ref r])) (.ref q')) λzs=>zcz (xs.length+zs.length) (∀p2,((O'.set r (.list [])).set q' (.list [.ref r])) p2=none->zn4 ⟨d,false⟩ (pdL x0 span ys p2 (some (.int (k:Nat))) (some (.int (ys.getD k 0)))) (Gy I K S) Gz (((O'.set r (.list [])).set q' (.list [.ref r])).set p2 (.list (xs++zs)))):=by
  intro ho r hr q' hq';refine zy H.gr.ex λrs h1 h2 h3 h4=>?_;refine zi (zA (zd0 (zd0 h1 hr) hq')) (zi (zA (AHeap.wA ..)) (zV ?_ λp2 hp2=>?_))
  .rw[fC,zhj h2,fC,fY];exact fE (gW H.n1) (fE hk9 (by decide))
  .exact zkK hI hk9 (GrpAt.vI (p:=p) h2 (fT.mp h3).2 (λa ha=>h4 a (fA _ ha)) H.gr.sub hr hq' hp2) hn.1 hn.2.1 hn.2.2 λl σ2=>fin _ p2 l σ2 (by rw[if_pos ho])
 cases k with
 | zero=>exact opn (by rw[H.hb];rfl)
 | succ i=>
  have ht':ys[i]? = some (ys.getD i 0):=ji (Nat.lt_of_succ_lt hlt);have hb2:b.2=some (ys.getD i 0):=by rw[H.hb,zeE ht',fW];exact znm ..
  refine zi (show j8 (ys.map AV.int) (((i+1:Nat):Int)-1)=some (.int (ys.getD i 0)) by rw[show (((i+1:Nat):Int)-1)=(i:Int) by exact zsT];exact jA ht') ?_;refine zcD (λh=>?_) λh=>?_
  .exact opn (by rw[hb2];exact Hz (Int.add_lt_of_lt_sub_left (H0 h)))
  .have ho:zbo span b.2 (dT (ys.getD (i+1) 0)).1=false:=by
    rw[hb2];exact Hy λhc=>of_decide_eq_false h (Int.lt_sub_left_of_add_lt hc)
   exact zkK hI hk9 H.gr (H.ne.resolve_left zEC) (fBU H.n1) (λg hg=>pD (H.n2 g hg)) λl σ2=>fin _ p l σ2 (by rw[ho];rfl)
end
theorem zi3(span:Int)(ys:List Int):((ys.map dT).foldl (jQ span) ([],none)).1.map (λg=>AV.lst (g.map fI))=(zF id span ys).map λT=>AV.lst (T.map .int):=by
 rw[zfd,zlV (f:=id) (g:=λt:Tr=>t.1) (k:=dT) (λ_=>rfl),gA,gA];refine gG λT _=>?_;show AV.lst (((T.map dT).map (·.2)).map fI)=_;rw[gA,gA];rfl
theorem zlT(G:Gd X (hK P))(hd:n<580){ps:List (Bool×Ent)}{span:Int}(hl:ps.length<=8)(hr:∀p∈ps,0<=p.2.1/\p.2.1<32768)
  (q:∀ys:List Int,ys.Pairwise (· < ·)->(∀k,k∈ys↔k∈ps.map (λp=>p.2.1))->ys.length<=900->Q (.lst ((zF id span ys).map λT=>AV.lst (T.map .int))) O):CallOk X 270 ⟨n,false⟩ [.lst (ps.map q9),.int span] Q Z O:=by
 refine znM G (gD hd (by decide)) λL=>?_;refine js (λp:Bool×Ent=>.int p.2.1) (λ_=>rfl) (λ_ _=>rfl) (λp hp R q=>q) trivial (fE hl (by decide)) ?_;have em:ps.map (λp:Bool×Ent=>AV.int p.2.1)=(ps.map λp=>p.2.1).map .int:=by rw[gA];rfl
 rw[em];show zcj _ _ _ _;unfold zcj;refine⟨ps.map λp=>p.2.1,rfl,⟨λk hk=>?_,by rw[fC];exact hl⟩,λys hy hm=>?_⟩
 .obtain⟨p,hp,rfl⟩:=fG.mp hk;exact hr p hp
 have hyl:ys.length<=900:=by
  have:=fE (zkS (l:=ys.map λd=>(false,d)) (r:=(ps.map λp=>p.2.1).map λd=>(false,d)) (qY (hy.imp λh=>Int.ne_of_lt h) λa _ b _ e=>congrArg Prod.snd e) λx hx=>by
   obtain⟨d,hd,rfl⟩:=fG.mp hx;exact gN ((hm d).mp hd)) (by rw[fC,fC];exact hl)
  rw[fC] at this;exact fE this (by decide)
 have q:=q ys hy hm hyl;rw[<-zi3] at q;intro p hp
 conv=>whnf
 rw[zg8];refine zH (g:=λx:Int×Nat=>AV.tup [.int (x.2:Nat),.int x.1]) (PdI O (.lst (ps.map q9)) span ys) (λb x=>jQ span b (dT x.1)) (λx xs b l O' K S_ h hK=>zqk hyl (λ_=>trivial) h hK) (b:=([],none)) (λl O' h=>?_) ⟨0,p,_,_,rfl,rfl,fV _,rfl,.inl rfl,⟨jU [] (AHeap.wA ..) .nil (fT.mpr ⟨gQ,.nil⟩) (λa ha=>by rw[fP.mp ha];exact hp),zQ hp⟩,fO _,λg hg=>nomatch hg⟩;obtain⟨k,p,u,w,el,H⟩:=h;subst el;have hk':k=ys.length:=by
  refine fAH H.hk (pE.mp λhlt=>?_);have hxs:=H.hxs;rw[pB hlt,fB2] at hxs;cases hxs
 have hb:=H.hb;rw[hk',fB0] at hb;have hG:GrpAt fI O O' p ((ys.map dT).foldl (jQ span) ([],none)).1:=by have:=H.gr;rw[hb] at this;exact this
 refine zy hG.ex λrs h1 h2 h3 h4=>?_;refine Ends.lists hG.sub h1 h2 h3 h4 ?_;rw[gA];exact q
end
section
variable{P:Hk}{X:Cx}{n:Nat}{Q:zk}{Z:XP}{O:AHeap}
theorem LAt.sub{O O':AHeap}{a:LA}{D:Led}(h:LAt O a D)(s:Sub O O'):LAt O' a D:=⟨s _ _ h.s,s _ _ h.d,s _ _ h.r,s _ _ h.b,s _ _ h.k,s _ _ h.t,s _ _ h.c,h.dr,h.nd⟩
theorem zxZ{i:Int}{xs:List Int}{R:Bool->AHeap->Prop}(q:R (decide (i∈xs)) O):inG (.int i) (.lst (xs.map .int)) R O:=by
 have e:AV.int i∈xs.map .int↔i∈xs:=⟨λh=>zb (fG.mp h) λj hj e=>zmQ e▸hj,λh=>gN h⟩
 refine zdT (k:=0) (.inl rfl) (.int i) (λy hy=>?_) (by decide) (λh=>?_) λh=>?_
 .refine zb (fG.mp hy) λx _ e=>?_;rw[<-e];exact .int x
 .rw[Hz (e.mp h)] at q;exact q
 .rw[Hy λh'=>h (e.mpr h')] at q;exact q
theorem zqs{J:Type}(us:List J)(x y:J)(vs:List J):(us++x::vs).set us.length y=us++y::vs:=by
 induction us with
 | nil=>rfl
 | cons a us ih=>exact congrArg (a::·) ih
abbrev Ct:=List Int->Nat
noncomputable def bump(d:Int)(c:Ct):Ct:=λT=>if d∈T then c T+1 else c T
noncomputable def ctL(Ts:List (List Int))(c:Ct):List AV:=Ts.map λT=>.int ((c T:Nat):Int)
noncomputable def fdL(a:Addr)(Ts:List (List Int))(p:Addr)(u3 u4 u5 u6 u7:Option AV):Loc:=[some (.ref a),some (.lst (Ts.map λT=>AV.lst (T.map .int))),some (.ref p),u3,u4,u5,u6,u7]
def FdJ(O:AHeap)(a:Addr)(Ts:List (List Int))(p:Addr)(u3 u4:Option AV)(d:Int)(c:Ct)(xs:List (List Int×Nat))(_:Unit)(l:Loc)(O':AHeap):Prop:=
 ∃k u6 u7,l=fdL a Ts p u3 u4 (some (.int d)) u6 u7/\xs=(Ts.drop k).zipIdx k/\k<=Ts.length/\O'=O.set p (.list (ctL (Ts.take k) (bump d c)++ctL (Ts.drop k) c))
section
variable{a p:Addr}{Ts:List (List Int)}{u3 u4:Option AV}{d:Int}{c:Ct}{I:AHeap->Prop}{K:Loc->AHeap->Prop}{S_:zN}
theorem zpr{m:Nat}{x:List Int×Nat}{xs:List (List Int×Nat)}{l:Loc}{O':AHeap}(hI:∀O,I O)(h:FdJ O a Ts p u3 u4 d c (x::xs) () l O')(hK:∀l' O',FdJ O a Ts p u3 u4 d c xs () l' O'->K l' O') :
  ∃l',jP (.many [6,7]) (.tup [.int (x.2:Nat),.lst (x.1.map .int)]) l=some l'/\zaW X ⟨m,false⟩ l' (Gy I K S_) Gz O':=by
 obtain⟨k,u6,u7,el,hxs,hk,eσ⟩:=h;subst el eσ;have hlt:k<Ts.length:=by
  refine fCB hk λe=>?_;rw[e,fBZ] at hxs;cases hxs
 have hd:=pB hlt;rw[hd,fB2] at hxs;obtain⟨ex,exs⟩:=List.cons.inj hxs;subst ex;have la:(ctL (Ts.take k) (bump d c)).length=k:=by unfold ctL;rw[fC,fAT];exact Nat.min_eq_left hk
 have tk:Ts.take (k+1)=Ts.take k++[Ts[k]]:=by rw[fAN,fJ hlt];rfl
 have fin:∀v,v=((bump d c Ts[k]:Nat):Int)->∀u6 u7,K (fdL a Ts p u3 u4 (some (.int d)) u6 u7) (O.set p (.list (ctL (Ts.take k) (bump d c)++.int v::ctL (Ts.drop (k+1)) c))):=λv ev u6 u7=>
  hK _ _ ⟨k+1,u6,u7,rfl,exs,hlt,by rw[ev,tk];unfold ctL;rw[fW,gH];rfl⟩
 refine zd _ rfl ?_;have e0:ctL (Ts.take k) (bump d c)++ctL (Ts.drop k) c=ctL (Ts.take k) (bump d c)++.int ((c Ts[k]:Nat):Int)::ctL (Ts.drop (k+1)) c:=by rw[hd];rfl
 rw[e0];refine zxZ ?_
 by_cases hm:d∈Ts[k]
 .rw[Hz hm];refine jj (AHeap.wA ..) (zi (a:=.int ((c Ts[k]:Nat):Int)) (by rw[atIdx_nat,gI (pF la),la,fC0];rfl) ?_);refine zlY (AHeap.wA ..) (pA k) (by rw[fA9,fF,la,fH];lia) ?_;rw[zdk,fA9];have e1:=zqs (ctL (Ts.take k) (bump d c)) (.int ((c Ts[k]:Nat):Int)) (.int ((c Ts[k]:Nat)+1:Int)) (ctL (Ts.drop (k+1)) c);rw[la] at e1;rw[e1];exact⟨hI _,fin _ (by unfold bump;rw[if_pos hm];rfl) _ _⟩
 .rw[Hy hm];exact⟨hI _,fin _ (by unfold bump;rw[if_neg hm]) _ _⟩
end
noncomputable def zaF(D:Led)(s:Bool)(i:Nat):Int:=(D.ent (s,(i:Int))).1
theorem znh{L:Env}(G:Gd (X.push L) (hK P))(hd:n<550){a:LA}{D:Led}{Ts:List (List Int)}{p:Addr}{s:Bool}{i:Nat}(hi:i<(D.row s).length)(hl:LAt O a D)(hp:O p=none){c:Ct}{u5 u6 u7:Option AV}{I:AHeap->Prop}{K:Loc->AHeap->Prop}{S_:zN}(hI:∀O,I O)
  (hK:∀u5 u6 u7,K (fdL a.self Ts p (some (.str s.toNat)) (some (.int i)) u5 u6 u7) (O.set p (.list (ctL Ts (bump (zaF D s i) c))))) :
  zaV (X.push L) ⟨n+1,false⟩ (fdL a.self Ts p (some (.str s.toNat)) (some (.int i)) u5 u6 u7) (Gy I K S_) Gz (O.set p (.list (ctL Ts c))):=by
 have hl':=hl.sub (zQ (o:=.list (ctL Ts c)) hp);have he:(D.row s)[i]? = some ((D.row s).getD i (0,0)):=ji hi;refine zo hl'.s hl'.d ?_;refine znf G (gD (fA3 hd) (by decide)) hl' he ?_
 conv=>whnf
 rw[zg8 (λT:List Int=>AV.lst (T.map .int))];refine zH (g:=λx:List Int×Nat=>AV.tup [.int (x.2:Nat),.lst (x.1.map .int)]) (FdJ O a.self Ts p (some (.str s.toNat)) (some (.int i)) (zaF D s i) c) (λ_ _=>()) (λx xs b l O' K S_ h hK=>zpr (λ_=>trivial) h hK) (b:=()) (λl O' h=>?_) ⟨0,_,_,rfl,rfl,fV _,rfl⟩;obtain⟨k,u6,u7,el,hxs,hk,eσ⟩:=h;have hk':k=Ts.length:=by
  refine fAH hk (pE.mp λhlt=>?_);rw[pB hlt,fB2] at hxs;cases hxs
 subst el eσ hk';rw[fB0,fBZ];have e:ctL Ts (bump (zaF D s i) c)++ctL [] c=ctL Ts (bump (zaF D s i) c):=gU _;rw[e];exact⟨hI _,hK _ _ _⟩
theorem zk6(D:Led)(s:Bool)(is:List Nat)(c:Ct):is.foldl (λc i=>bump (zaF D s i) c) c=λT=>c T+(is.filter λi=>decide (zaF D s i∈T)).length:=by
 induction is generalizing c with
 | nil=>rfl
 | cons i is ih=>
  rw[pM,ih]
  funext T
  unfold bump;rw[fBG]
  by_cases h:zaF D s i∈T
  .rw[if_pos h,if_pos (Hz h),fH];exact zmE
  .rw[if_neg h,if_neg (by rw[Hy h];exact pK)]
theorem zpq{L:Env}(G:Gd (X.push L) (hK P))(hd:n<550){a:LA}{D:Led}{Ts:List (List Int)}{p:Addr}{s:Bool}(hl:LAt O a D)(ho:LOk D)(hp:O p=none){c:Ct}{u4 u5 u6 u7:Option AV}{I:AHeap->Prop}{K:Loc->AHeap->Prop}{S_:zN}(hI:∀O,I O)
  (hK:∀u4 u5 u6 u7,K (fdL a.self Ts p (some (.str s.toNat)) u4 u5 u6 u7) (O.set p (.list (ctL Ts λT=>c T+(D.freeIn T s).length)))) :
  zaU (X.push L) ⟨n+1,false⟩ (fdL a.self Ts p (some (.str s.toNat)) u4 u5 u6 u7) (Gy I K S_) Gz (O.set p (.list (ctL Ts c))):=by
 have hl':=hl.sub (zQ (o:=.list (ctL Ts c)) hp);refine zo hl'.s hl'.d ?_;refine zgd (s:=s) G (gD (fA3 hd) (by decide)) hl' ho ?_;refine zH (g:=λi:Nat=>AV.int i) (λxs b l O'=>(∀i∈xs,i<(D.row s).length)/\O'=O.set p (.list (ctL Ts b))/\∃u4 u5 u6 u7,l=fdL a.self Ts p (some (.str s.toNat)) u4 u5 u6 u7) (λc i=>bump (zaF D s i) c) (λi xs b l O' K S_ h hK=>?_) (b:=c) (λl O' h=>?_) ⟨λi hi=>gV.mp (fU.mp hi).1,rfl,_,_,_,_,rfl⟩
 .obtain⟨hx,rfl,u4,u5,u6,u7,rfl⟩:=h;exact zd _ rfl (znh G hd (hx i fB) hl hp (λ_=>trivial) λu5 u6 u7=>hK _ _ ⟨λj hj=>hx j (fA _ hj),rfl,_,_,_,_,rfl⟩)
 .obtain⟨_,rfl,u4,u5,u6,u7,rfl⟩:=h;rw[zk6];exact⟨hI _,hK _ _ _ _⟩
theorem zxA(Ts:List (List Int)):(List.replicate Ts.length [AV.int 0]).flatten=ctL Ts λ_=>0:=by
 induction Ts with
 | nil=>rfl
 | cons T Ts ih=>
  rw[fH,List.replicate_succ,fDF,ih];rfl
theorem zbT(G:Gd X (hK P))(hd:n<550){a:LA}{D:Led}(hl:LAt O a D)(ho:LOk D){Ts:List (List Int)}(hT:Ts.length<=900)(q:Q (.lst (ctL Ts D.cnt)) O):CallOk X 265 ⟨n,false⟩ [.ref a.self,.lst (Ts.map λT=>AV.lst (T.map .int))] Q Z O:=by
 refine zhw G (gD hd (by decide)) λL=>?_;have G':=G.push L;intro p0 hp0;have el:((Ts.map λT=>AV.lst (T.map .int)).length:Int).toNat=Ts.length:=by rw[fC];rfl
 conv=>whnf
 refine zi (zA (AHeap.wA ..)) ?_;have hle:((Ts.map λT=>AV.lst (T.map .int)).length:Int)<=1000000:=by rw[fC];exact fBH.mpr (fE hT (by decide))
 refine qZ (b:=decide (((Ts.map λT=>AV.lst (T.map .int)).length:Int)<=1000000)&&decide (-1000000<=((Ts.map λT=>AV.lst (T.map .int)).length:Int))) (by rw[Hz hle,Hz (fCY (by decide) (pA _))];rfl) ?_;rw[el];refine zV (by rw[fY,Nat.one_mul];exact fE hT (by decide)) ?_;rw[zxA Ts];intro p hp;have s1:Sub O (O.set p0 (.list [.int 0])):=zQ hp0;have hl1:=hl.sub s1;have hpσ:O p=none:=s1.none hp;generalize O.set p0 (.list [.int 0])=σ1 at s1 hl1 hp ⊢;refine zH (xs:=[false,true]) (g:=λs:Bool=>AV.str s.toNat) (λxs b l O'=>O'=σ1.set p (.list (ctL Ts b))/\∃u3 u4 u5 u6 u7,l=fdL a.self Ts p u3 u4 u5 u6 u7) (λ(c:Ct) s T=>c T+(D.freeIn T s).length) (λs xs b l O' K S_ h hK=>?_) (b:=λ_=>0) (λl O' h=>?_) ⟨rfl,_,_,_,_,_,rfl⟩
 .obtain⟨rfl,u3,u4,u5,u6,u7,rfl⟩:=h;exact zd _ rfl (zpq G' hd hl1 ho hp (λ_=>trivial) λu4 u5 u6 u7=>hK _ _ ⟨rfl,_,_,_,_,_,rfl⟩)
 .obtain⟨rfl,u3,u4,u5,u6,u7,rfl⟩:=h;refine Ends.one (s1.put hpσ) (AHeap.wA ..) hpσ ?_;have e:ctL Ts (List.foldl (λ(c:Ct) s T=>c T+(D.freeIn T s).length) (λ_=>0) [false,true])=ctL Ts D.cnt:=by
   unfold ctL;refine gG λT _=>?_;show AV.int ((0+(D.freeIn T false).length+(D.freeIn T true).length:Nat):Int)=_;rw[fAO];rfl
  rw[e];exact q
end
section
variable{P:Hk}{X:Cx}{n:Nat}{Q:zk}{Z:XP}{O:AHeap}
theorem zsa{D:Led}(h:Inv D):D.tick.length<=D.es.length+D.fs.length:=by
 have hne:∀m∈D.tick,ze m≠[]:=λm hm=>kG (h.fits m hm).go;have nd:(D.tick.map zZ).Nodup:=by
  rw[fBY,fAD];exact h.apart.imp_of_mem λ{a b} ha hb hd e=>hd _ (qR (hne a ha)) (e▸qR (hne b hb))
 have:=zb4 nd (u:=(inO D.es D.fs).map (·.2)) λy hy=>by
  refine zb (fG.mp hy) λm hm e6_2=>?_;subst e6_2;refine zb (h.whole m hm) λg h1 h2=>?_;rw[<-qL D.es D.fs D.span];exact pG.mpr (zd g h1 (h2 _ (qR (hne m hm))))
 rw[fC,fC,za7] at this;exact this
theorem ztE(a:LA):a.dx∈a.all:=fA _ fB
theorem zpg(a:LA)(s:Bool):a.row s∈a.all:=by
 cases s
 .exact gL [a.self,a.dx,a.rd] (fB (a:=a.pb) (l:=[a.pk,a.pt,a.pc]))
 .exact gL [a.self,a.dx,a.rd,a.pb] (fB (a:=a.pk) (l:=[a.pt,a.pc]))
theorem zsp{a:LA}{pt x:Addr}(h:x∈({ a with pt:=pt }:LA).all):x=pt\/x∈a.all:=
 (fS.mp (show x∈[a.self,a.dx,a.rd,a.pb,a.pk]++pt::[a.pc] from h)).elim (λh=>.inr (pH (a.pt::[a.pc]) h)) λh=>(fM.mp h).elim .inl λh=>.inr (gL [a.self,a.dx,a.rd,a.pb,a.pk] (fA _ h))
theorem LAt.lives{a:LA}{D:Led}(h:LAt O a D){x:Addr}(hx:x∈a.all):O x≠none:=by
 refine(fR.mpr ⟨?_,fR.mpr ⟨?_,fR.mpr ⟨?_,fR.mpr ⟨?_,fR.mpr ⟨?_,fR.mpr ⟨?_,fR.mpr ⟨?_,λ_ h=>nomatch h⟩⟩⟩⟩⟩⟩⟩:∀x∈a.all,O x≠none) x hx
 .rw[h.s];exact fN _
 .rw[h.d];exact fN _
 .rw[h.r];exact fN _
 .rw[h.b];exact fN _
 .rw[h.k];exact fN _
 .rw[h.t];exact fN _
 .rw[h.c];exact fN _
theorem LAt.keep{O':AHeap}{a:LA}{D:Led}(h:LAt O a D)(k:∀x∈a.all,∀z,O x=some z->O' x=some z):LAt O' a D:=
 ⟨k _ m0 _ h.s,k _ m1 _ h.d,k _ m2 _ h.r,k _ m3 _ h.b,k _ m4 _ h.k,k _ m5 _ h.t,k _ m6 _ h.c,h.dr,h.nd⟩
def Dis(a b:LA):Prop:=∀x∈a.all,x∉b.all
theorem Dis.symm{a b:LA}(h:Dis a b):Dis b a:=λx hx hx'=>h x hx' hx
structure L3(O:AHeap)(a b c:LA)(D E F:Led):Prop where
 la:LAt O a D
 lb:LAt O b E
 lc:LAt O c F
 ab:Dis a b
 ac:Dis a c
 bc:Dis b c
theorem L3.swap{a b c:LA}{D E F:Led}(h:L3 O a b c D E F):L3 O b a c E D F:=⟨h.lb,h.la,h.lc,h.ab.symm,h.bc,h.ac⟩
theorem L3.put{O':AHeap}{a b c:LA}{D E F D':Led}{s:Bool}{pt:Addr}(h:L3 O a b c D E F)(fr:∀x z,x≠a.dx->x≠a.row s->O x=some z->O' x=some z)(hp:O pt=none)(hL:LAt O' { a with pt:=pt } D'):L3 O' { a with pt:=pt } b c D' E F:=by
 have kp:∀{d:LA},Dis a d->∀x∈d.all,∀z,O x=some z->O' x=some z:=λhd x hx z e=>fr x z (λq=>hd _ (ztE a) (q▸hx)) (λq=>hd _ (zpg a s) (q▸hx)) e;have ds:∀{d:LA} {E:Led},LAt O d E->Dis a d->Dis { a with pt:=pt } d:=λhl hd x hx hx'=>(zsp hx).elim (λe=>hl.lives hx' (by rw[e];exact hp)) λh=>hd x h hx';exact⟨hL,h.lb.keep (kp h.ab),h.lc.keep (kp h.ac),ds h.lb h.ab,ds h.lc h.ac,h.bc⟩
theorem PutI.len{D:Led}{span:Int}{ps:List (Bool×Ent)}(h:PutI D span ps):D.es.length+D.fs.length=ps.length:=by
 rw[h.es,h.fs];unfold zO;dsimp only;rw[fC,fC];clear h
 induction ps with
 | nil=>rfl
 | cons p ps ih=>cases hp:p.1<;>simp only[fBG,hp,fDX,fB6,if_true,if_false,gC,fH]<;>(first|exact zxu ih|exact zxv ih)
theorem zkL(G:Gd X (hK P))(hd:n<500){a b c:LA}{D E F:Led}(h:L3 O a b c D E F){sp:Int}{ps:List (Bool×Ent)}(hP:PutI D sp ps)(hl:ps.length<8){p:Bool×Ent}(he:zaM p.2.1 p.2.2=true)
  (q:∀O' pt D' v,L3 O' { a with pt:=pt } b c D' E F->PutI D' sp (ps++[p])->Q v O'):CallOk X 192 ⟨n,false⟩ [.ref a.self,.str p.1.toNat,.int p.2.1,.int p.2.2] Q Z O:=by
 obtain⟨s,e⟩:=p;have I:=hP.I;have hlen:=hP.len;have hrl:(D.row s).length<80:=by cases s<;>(show List.length _<80)<;>(first|(show D.es.length<80;exact zvB hl hlen)|(show D.fs.length<80;exact zvC hl hlen))
 have ho1:=zkz I.ok he hrl;refine zl (zja (D.add s e) (m:=(s,((D.row s).length:Int))) (k:=(D.row s).length) rfl (by show _<((D.add s e).row s).length;rw[zpe,fF,fY];exact zo5)) λg gs hg hgm hgx=>?_;have h8:g.length<=8:=by
  have h1:=zpA hgm;have h2:(D.add s e).es.length+(D.add s e).fs.length=D.es.length+D.fs.length+1:=by
   cases s
   .show (D.es++[e]).length+D.fs.length=_;rw[fF,fY];exact zAH
   .show D.es.length+(D.fs++[e]).length=_;rw[fF,fY];exact zAL
  exact zvU hl hlen h1 h2
 refine zsA G (gD hd (by decide)) h.la I.ok he hrl hg h8 λO' pt fr hp hL=>?_;exact q O' pt _ _ (h.put fr hp hL) (hP.put ho1 hgm hgx h8 (by have:=zsa I;exact zvO hl hlen this))
noncomputable def L8:List Int:=[1,2,3,4,5,7,-2,-3]
noncomputable def zda(c days scale:Int):Bool×Ent:=(decide (c.fmod 2=1),((c.fdiv 2).fmod days,L8.getD ((c.fdiv 7).fmod 8).toNat 0*scale))
theorem zfO{c:Int}{xs:List Int}(m:Int)(h:(xs.length:Int)=m)(hp:0<m):j8 (xs.map AV.int) (c.fmod m)=some (.int (xs.getD (c.fmod m).toNat 0))/\xs.getD (c.fmod m).toNat 0∈xs:=by
 have h1:=pJ c hp;have h2:=pW c hp;obtain⟨j,hj⟩:=pS h1;rw[hj];have hl:j<xs.length:=by exact zAM h h2 hj
 have e:xs.getD (((j:Nat):Int).toNat) 0=xs[j]:=by rw[fA9,fQ,fJ hl];rfl
 rw[e];exact⟨jA (fJ hl),fAK hl⟩
theorem zmP(c:Int):j8 [AV.str 0,.str 1] (c.fmod 2)=some (.str (decide (c.fmod 2=1)).toNat):=by
 have h1:=pJ c (show (0:Int)<2 by decide);have h2:=pW c (show (0:Int)<2 by decide);have:c.fmod 2=0\/c.fmod 2=1:=by lia
 rcases this with e|e<;>rw[e]<;>rfl
theorem zez{i j:Int}(h1 : -1000000000<=j)(h2:j<=1000000000):(small j.natAbs||small i.natAbs)=true:=by
 have h:j.natAbs<=1000000000:=by lia
 unfold small;rw[show Nat.blt j.natAbs 1152921504606846976=true from fCJ (fC5 h (by decide))];rfl
structure DsOk(days scale:Int):Prop where
 d:0<days/\days<=10000
 s:1<=scale/\scale<=100000000
theorem zpn{c days scale:Int}(h:DsOk days scale):zaM (zda c days scale).2.1 (zda c days scale).2.2=true/\0<=(zda c days scale).2.1/\(zda c days scale).2.1<32768:=by
 have a1:=pJ (c.fdiv 2) h.d.1;have a2:=pW (c.fdiv 2) h.d.1;have a3:=h.d.2;have hm:=(zfO (c:=c.fdiv 7) (xs:=L8) 8 rfl (by decide)).2;have hx:∀x∈L8,x≠0/\-7<=x/\x<=7:=by decide
 obtain⟨x1,x2,x3⟩:=hx _ hm;have s1:=h.s.1;have s2:=h.s.2;unfold zda;dsimp only;generalize L8.getD ((c.fdiv 7).fmod 8).toNat 0=x at x1 x2 x3;generalize (c.fdiv 2).fmod days=d at a1 a2;have h0:(0:Int)<=scale:=by exact y25 s1
 have m1:x*scale<=7*scale:=fCR x3 h0;have m2 : -7*scale<=x*scale:=fCR x2 h0;have m3:x*scale≠0:=Int.mul_ne_zero x1 (by exact zuB s1);refine⟨?_,a1,by exact zuF a3 a2⟩;unfold zaM;rw[Hz a1,Hz (show d<=9999 by exact zuG a3 a2),Hz (show 0-1000000000<=x*scale by lia),Hz (show x*scale<=1000000000 by exact zuH s2 m1),Hy m3];rfl
theorem zgc(G:Gd X (hK P))(hd:n<580){c days scale:Int}(h:DsOk days scale)(q:Q (q9 (zda c days scale)) O):CallOk X 258 ⟨n,false⟩ [.int c,.int days,.int scale] Q Z O:=by
 refine zhy G (gD hd (by decide)) λL=>?_;refine zi (zmP c) ?_;have hp:=h.d.1;refine qZ (by unfold zod;rw[Hy (by exact y14 hp)];rfl) ?_;refine zi (zfO (c:=c.fdiv 7) (xs:=L8) 8 rfl (by decide)).1 ?_;refine qZ (zez (by have:=h.s.1;exact zuA this) (by have:=h.s.2;exact zuC this)) ?_;exact Ends.same q
end
section
variable{P:Hk}{X:Cx}{n:Nat}{Q:zk}{Z:XP}{O:AHeap}
theorem zk2{hb:Bool}(G:Gd X (hK P))(hd:n<560){a:LA}{D:Led}(h:LAt O a D)(q:Q (.lst (D.clos.map z8)) O):CallOk X 213 ⟨n,hb⟩ [.ref a.self] Q Z O:=by
 refine znK G (gD hd (by decide)) λL=>?_;refine zo h.s h.d ?_
 conv=>whnf
 exact zi (zA h.c) (Ends.same q)
theorem zdJ{k:Nat}{xs:List AV}(hf:∀x∈xs,Flat k x)(hk:k<100){R:Bool->AHeap->Prop}(q:R true O):eqG (.lst xs) (.lst xs) R O:=zdI (.lst hf) (.lst hf) hk (λ_=>q) λh=>absurd rfl h
theorem bit{x:Int}(h1:0<=x)(h2:x<2):x=0\/x=1:=zEU h1 h2
theorem zhi(sp:Int):Led.grps ⟨[],[],sp,[],[]⟩=[]:=by
 have h2:inO [] []=[]:=fAW (by rw[za7];rfl);unfold Led.grps grps;rw[h2];rfl
theorem zku{sp:Int}(h0:0<=sp)(h1:sp<=30):Inv ⟨[],[],sp,[],[]⟩:=by
 refine⟨⟨⟨(λ_ h=>nomatch h),(λ_ h=>nomatch h),fV _⟩,⟨(λ_ h=>nomatch h),(λ_ h=>nomatch h),fV _⟩,⟨fV _,fV _⟩,(λ_ h=>nomatch h),(λ_ h=>nomatch h),fV _,fV _⟩,h0,h1,λg h=>?_,(λ_ h=>nomatch h),.nil,(λ_ h=>nomatch h),(λ_ h=>nomatch h)⟩;rw[zhi] at h;cases h
theorem zoK{i:Int}(c:Int):(small (c.fmod (10 ^ Int.toNat 8)).natAbs||small i.natAbs)=true:=zez (fCY (by decide) (pJ c (show (0:Int)<10 ^ Int.toNat 8 by decide))) (fCY (fC2 (pW c (show (0:Int)<10 ^ Int.toNat 8 by decide))) (by decide))
theorem zh1{a m i:Nat}{xs:List Nat}(h:i::xs=List.range' a m):i=a/\∃j,m=j+1/\xs=List.range' (a+1) j:=by
 cases m with
 | zero=>cases h
 | succ j=>rw[List.range'_succ] at h;cases h;exact kt rfl j rfl rfl
theorem zlU{ts:List Int}{span:Int}:(zF id span ts).length<=ts.length:=by
 have gen:∀gs:List (List Int),(∀g∈gs,g≠[])->gs.length<=gs.flatten.length:=λgs=>by
  induction gs with
  | nil=>exact λ_=>fO _
  | cons g gs ih=>
   intro h;rw[fH,fDF,fF];have h1:=List.length_pos_iff.mpr (h g fB);have h2:=ih λx hx=>h x (fA _ hx);exact zvw h1 h2
 have:=gen _ (zca (f:=id) (span:=span) (ts:=ts));rw[jf] at this;exact this
noncomputable def D0(sp:Int):Led:=⟨[],[],sp,[],[]⟩
theorem zt6{sp:Int}(h0:0<=sp)(h1:sp<=30):PutI (D0 sp) sp []:=⟨rfl,rfl,rfl,rfl,zku h0 h1,λg hg=>by
 have:g∈Led.grps ⟨[],[],sp,[],[]⟩:=hg;rw[zhi] at this;cases this⟩
def zp3(X:Cx):AS:=(Gb (Gf 9 (G1 X 240 173 [Ga 1])) (Gb (Gf 10 (G1 X 240 173 [Ga 1])) (Gb (Gf 11 (G1 X 240 173 [Ga 1])) (Gb (Gv (Gp (Gk qn false [Ga 4])) (.one 5) (zaX X)) (Gb (Gf 12 (Gj X 270 [Ga 6,Ga 1])) (Gb (Gq (orL [Gi (Gs X 240 (some 17) 206 (Ga 11) []) [(.NotEq,(Gn false []))],Gi (Gs X 240 none 218 (Ga 11) [Gc (.str 0)]) [(.NotEq,(Gn false []))],Gi (Gs X 240 none 218 (Ga 11) [Gc (.str 1)]) [(.NotEq,(Gn false []))],Gi (Gs X 240 (some 18) 213 (Ga 11) []) [(.NotEq,(Gn false []))]]) (Gb (Gm (Gc (.bool false))) Ge) Ge) (Gb (Gm (Gi (Gj X 265 [Ga 9,Ga 12]) [(.Eq,(Gj X 265 [Ga 10,Ga 12]))])) Ge)))))))
noncomputable def lwL(ns:List Int)(sp days scale:Int)(N:Nat)(ps qs:List (Bool×Ent))(u5 u7 u9 u10 u11 u12:Option AV):Loc:=[some (.lst (ns.map .int)),some (.int sp),some (.int days),some (.int scale),some (.int N),u5,some (.lst (ps.map q9)),u7,some (.lst (qs.map q9)),u9,u10,u11,u12]
structure GoodPs(ps:List (Bool×Ent)):Prop where
 go:∀p∈ps,zaM p.2.1 p.2.2=true/\0<=p.2.1/\p.2.1<32768
 len:ps.length<=8
theorem znQ{L:Env}(G:Gd (X.push L) (hK P))(hd:n<440){a b c:LA}{D E F:Led}(h:L3 O a b c D E F){ps qs:List (Bool×Ent)}(gp:GoodPs ps)(gq:GoodPs qs){sp:Int}{j:Nat}(hjp:j<ps.length)(hjq:j<qs.length)(h1:PutI D sp (ps.take j))(h2:PutI E sp (qs.take j))
  {ns:List Int}{days scale:Int}{N:Nat}{u7 u11 u12:Option AV}{I:AHeap->Prop}{K:Loc->AHeap->Prop}{S_:zN}(hI:∀O,I O)
  (hK:∀O' pa pb D' E',L3 O' { a with pt:=pa } { b with pt:=pb } c D' E' F->PutI D' sp (ps.take (j+1))->PutI E' sp (qs.take (j+1))->K (lwL ns sp days scale N ps qs (some (.int j)) u7 (some (.ref a.self)) (some (.ref b.self)) u11 u12) O') :
  zaX (X.push L) ⟨n+1,false⟩ (lwL ns sp days scale N ps qs (some (.int j)) u7 (some (.ref a.self)) (some (.ref b.self)) u11 u12) (Gy I K S_) Gz O:=by
 have ep:=fJ hjp;have eq:=fJ hjq;have tk:∀{rs:List (Bool×Ent)} (hr:j<rs.length),rs.take j++[rs[j]]=rs.take (j+1):=λ{rs} hr=>by rw[fAN,fJ hr];rfl
 have lt:∀{rs:List (Bool×Ent)},GoodPs rs->j<rs.length->(rs.take j).length<8:=λhg hr=>by rw[fAT];have:=hg.len;exact zvd hr this
 refine zo h.la.s h.la.d ?_;refine zi (jA ep) ?_;refine zi (jA ep) ?_;refine zi (jA ep) ?_;refine zkL G (gD (fA3 hd) (by decide)) h h1 (lt gp hjp) (gp.go _ (fAK hjp)).1 λσ1 pa D' _ k1 p1=>?_;refine zo k1.lb.s k1.lb.d ?_;refine zi (jA eq) ?_;refine zi (jA eq) ?_;refine zi (jA eq) ?_;refine zkL G (gD (fA3 hd) (by decide)) k1.swap h2 (lt gq hjq) (gq.go _ (fAK hjq)).1 λσ2 pb E' _ k2 p2=>?_;rw[tk hjp] at p1;rw[tk hjq] at p2;exact⟨hI _,hK σ2 pa pb D' E' k2.swap p1 p2⟩
theorem zhA{L:Env}(G:Gd (X.push L) (hK P))(hd:n<430){ns:List Int}{sp:Int}(h0:0<=sp)(h1:sp<=30){ps qs:List (Bool×Ent)}(gp:GoodPs ps)(hpq:ps.Perm qs)(q:∀O',Q (.bool true) O'){days scale:Int}{u5 u7 u9 u10 u11 u12:Option AV} :
  zp3 (X.push L) ⟨n+1,false⟩ (lwL ns sp days scale ps.length ps qs u5 u7 u9 u10 u11 u12) (A.w8 Q) (G6 Z) O:=by
 have hd2:n<440:=gD hd (by decide);have gs:znw sp=true:=by unfold znw;rw[Hz h0,Hz h1];rfl
 have gq:GoodPs qs:=⟨λp hp=>gp.go p (hpq.mem_iff.mpr hp),hpq.length_eq▸gp.len⟩
 have hl8:=gp.len;have hlq:=hpq.length_eq;refine⟨(show n+1<590 by exact ziD hd),zjx G (by exact zo4 hd) gs λσ1 a s1 f1 hL1=>?_⟩;refine⟨(show n+1<590 by exact ziD hd),zjx G (by exact zo4 hd) gs λσ2 b s2 f2 hL2=>?_⟩;refine⟨(show n+1<590 by exact ziD hd),zjx G (by exact zo4 hd) gs λσ3 c s3 f3 hL3=>?_⟩;have hL1':=hL1.sub s2;have k0:L3 σ3 a b c (D0 sp) (D0 sp) (D0 sp):=⟨hL1'.sub s3,hL2.sub s3,hL3,λx hx hx'=>hL1.lives hx (f2 x hx'),λx hx hx'=>hL1'.lives hx (f3 x hx'),λx hx hx'=>hL2.lives hx (f3 x hx')⟩
 refine zel (fE hl8 (by decide)) ?_;refine zH (g:=λi:Nat=>AV.int i) (λxs (j:Nat) l O'=>(∃pa pb D E,L3 O' { a with pt:=pa } { b with pt:=pb } c D E (D0 sp)/\PutI D sp (ps.take j)/\PutI E sp (qs.take j))/\xs=List.range' j xs.length/\j+xs.length=ps.length/\∃u5 u12,l=lwL ns sp days scale ps.length ps qs u5 u7 (some (.ref a.self)) (some (.ref b.self)) (some (.ref c.self)) u12) (λj _=>j+1) (λi xs j l O' K S_ hR hK=>?_) (b:=0) (λl O' hR=>?_) ⟨⟨a.pt,b.pt,_,_,k0,zt6 h0 h1,zt6 h0 h1⟩,by rw[gY,List.range_eq_range'],by rw[gY,fAO],_,_,rfl⟩
 .obtain⟨⟨pa,pb,D,E,k,p1,p2⟩,hxs,hl,u5,u12,rfl⟩:=hR;obtain⟨ei,m,em,ex⟩:=zh1 hxs;subst ei;rw[fH] at hl em;have em:xs.length=m:=Nat.succ.inj em;have hi:i<ps.length:=by exact zA1 hl
  exact zd _ rfl (znQ (a:={ a with pt:=pa }) (b:={ b with pt:=pb }) G hd2 k gp gq hi (hlq▸hi) p1 p2 (λ_=>trivial) λσ2 pa pb D' E' k' p1' p2'=>hK _ _ ⟨⟨pa,pb,D',E',k',p1',p2'⟩,by rw[em];exact ex,by exact zur hl,_,_,rfl⟩)
 .obtain⟨⟨pa,pb,D,E,k,p1,p2⟩,_,hl,u5,u12,rfl⟩:=hR;have hl:List.foldl (λj x=>j+1) 0 (List.range ps.length)=ps.length:=hl;rw[hl] at p1 p2;rw[fB0] at p1;rw[hlq,fB0] at p2;refine zlT G (by exact zuY hd) hl8 (λp hp=>(gp.go p hp).2) λys hy hm hyl=>?_;refine zo k.lc.s k.lc.d ?_;have I0:Inv (D0 sp):=zku h0 h1;have e0:srt num (D0 sp).tick=[]:=fAW ((zU num (D0 sp).tick).length_eq);refine zjt G (by exact zkZ hd) k.lc I0.ok ?_;rw[e0];refine zdJ (k:=0) (xs:=[]) (λ_ h=>nomatch h) (by decide) ?_;refine zo k.lc.s k.lc.d ?_;refine zgd (s:=false) G (by exact zkZ hd) k.lc I0.ok ?_;refine zdJ (k:=0) (xs:=[]) (λ_ h=>nomatch h) (by decide) ?_;refine zo k.lc.s k.lc.d ?_;refine zgd (s:=true) G (by exact zkZ hd) k.lc I0.ok ?_;refine zdJ (k:=0) (xs:=[]) (λ_ h=>nomatch h) (by decide) ?_;refine zo k.lc.s k.lc.d ?_;refine zk2 G (by exact zkZ hd) k.lc ?_;refine zdJ (k:=0) (xs:=[]) (λ_ h=>nomatch h) (by decide) ?_;have hT:(zF id sp ys).length<=900:=fE zlU hyl;refine zbT (a:={ a with pt:=pa }) G (by exact zrE hd) k.la p1.I.ok hT ?_;refine zbT (a:={ b with pt:=pb }) G (by exact zrE hd) k.lb p2.I.ok hT ?_;have e:ctL (zF id sp ys) D.cnt=ctL (zF id sp ys) E.cnt:=gG λT hT=>congrArg (λm:Nat=>AV.int m) (zm9 p1 p2 hpq hy hm hT);rw[e];refine zdJ (k:=0) (λx hx=>?_) (by decide) ?_
  .obtain⟨T,_,rfl⟩:=fG.mp hx;exact .int _
  .exact Ends.same (q _)
end
section
variable{P:Hk}{X:Cx}{n:Nat}{Q:zk}{Z:XP}{O:AHeap}
theorem zg0{m t:Nat}(h:t<=m):clipAt m (t:Int)=t:=by
 have:=clipAt_min (n:=m) (y:=(t:Int)) (pA t);rw[if_neg (by exact zvo h)] at this;exact Int.ofNat.inj this
theorem zrX{J:Type}(f:J->AV){ps:List J}{t:Nat}(h:t<=ps.length):cut (ps.map f) (some (t:Int)) none=(ps.drop t).map f:=by
 unfold cut;show ((ps.map f).drop (clipAt _ (t:Int))).take ((ps.map f).length-clipAt _ (t:Int))=_;rw[fC,zg0 h,fAL (by rw[fBF,fC];exact fO _),List.map_drop]
theorem zrW{J:Type}(f:J->AV){ps:List J}{t:Nat}(h:t<=ps.length):cut (ps.map f) none (some (t:Int))=(ps.take t).map f:=by
 unfold cut;show ((ps.map f).drop 0).take (clipAt _ (t:Int)-0)=_;rw[fC,zg0 h,List.drop_zero,Nat.sub_zero,List.map_take]
theorem zkF(c:Int){m:Nat}(h:0<m):∃N:Nat,c.fmod m=(N:Nat)/\N<m:=by
 have h1:=pJ c (fAI.mpr h);have h2:=pW c (fAI.mpr h);obtain⟨N,hN⟩:=pS h1;have hN:c.fmod m=(N:Nat):=hN;exact⟨N,hN,by rw[hN] at h2;exact fAI.mp h2⟩
def zp2(X:Cx):AS:=(Gb (Gf 2 (Gg (Gn false [Gc (.int 5),Gc (.int 20),Gc (.int 5),Gc (.int 10000)]) (Gh false .Mod (Gj X 251 [Ga 0,Gc (.int 1)]) (Gc (.int 4))))) (Gb (Gf 3 (Gh false .Add (Gc (.int 1)) (Gh false .Mult (Gh false .Mod (Gh false .FloorDiv (Gj X 251 [Ga 0,Gc (.int 1)]) (Gc (.int 4))) (Gc (.int 2))) (Gh false .Mod (Gh false .FloorDiv (Gj X 251 [Ga 0,Gc (.int 1)]) (Gc (.int 8))) (Gh false .Pow (Gc (.int 10)) (Gc (.int 8))))))) (Gb (Gf 4 (Gh false .Mod (Gj X 251 [Ga 0,Gc (.int 2)]) (Gc (.int 9)))) (Gb (Gf 6 (Gu false (Gp (Gk qn false [Ga 4])) (.one 14) 2 none (Gj X 258 [Gh false .Add (Gh false .Mult (Gj X 251 [Ga 0,Gh false .Add (Gc (.int 4)) (Ga 14)]) (Gc (.int 48271))) (Gh false .Mult (Gc (.int 31)) (Ga 14)),Ga 2,Ga 3]))) (Gb (Gf 7 (Gh false .Mod (Gj X 251 [Ga 0,Gc (.int 3)]) (Gh false .Add (Ga 4) (Gc (.int 1))))) (Gb (Gf 8 (Gh false .Add (G3 false (Ga 6) (some (Ga 7)) none) (G3 false (Ga 6) none (some (Ga 7))))) (Gb (Gq (Gi (Gh false .Mod (Gh false .FloorDiv (Gj X 251 [Ga 0,Gc (.int 3)]) (Gc (.int 11))) (Gc (.int 2))) [(.Eq,(Gc (.int 1)))]) (Gb (Gf 8 (Gk zhU false [Ga 8])) Ge) Ge) (Gb (Gf 9 (G1 X 240 173 [Ga 1])) (Gb (Gf 10 (G1 X 240 173 [Ga 1])) (Gb (Gf 11 (G1 X 240 173 [Ga 1])) (Gb (Gv (Gp (Gk qn false [Ga 4])) (.one 5) (zaX X)) (Gb (Gf 12 (Gj X 270 [Ga 6,Ga 1])) (Gb (Gq (orL [Gi (Gs X 240 (some 17) 206 (Ga 11) []) [(.NotEq,(Gn false []))],Gi (Gs X 240 none 218 (Ga 11) [Gc (.str 0)]) [(.NotEq,(Gn false []))],Gi (Gs X 240 none 218 (Ga 11) [Gc (.str 1)]) [(.NotEq,(Gn false []))],Gi (Gs X 240 (some 18) 213 (Ga 11) []) [(.NotEq,(Gn false []))]]) (Gb (Gm (Gc (.bool false))) Ge) Ge) (Gb (Gm (Gi (Gj X 265 [Ga 9,Ga 12]) [(.Eq,(Gj X 265 [Ga 10,Ga 12]))])) Ge))))))))))))))
def zp1(X:Cx):AS:=(Gb (Gf 7 (Gh false .Mod (Gj X 251 [Ga 0,Gc (.int 3)]) (Gh false .Add (Ga 4) (Gc (.int 1))))) (Gb (Gf 8 (Gh false .Add (G3 false (Ga 6) (some (Ga 7)) none) (G3 false (Ga 6) none (some (Ga 7))))) (Gb (Gq (Gi (Gh false .Mod (Gh false .FloorDiv (Gj X 251 [Ga 0,Gc (.int 3)]) (Gc (.int 11))) (Gc (.int 2))) [(.Eq,(Gc (.int 1)))]) (Gb (Gf 8 (Gk zhU false [Ga 8])) Ge) Ge) (Gb (Gf 9 (G1 X 240 173 [Ga 1])) (Gb (Gf 10 (G1 X 240 173 [Ga 1])) (Gb (Gf 11 (G1 X 240 173 [Ga 1])) (Gb (Gv (Gp (Gk qn false [Ga 4])) (.one 5) (zaX X)) (Gb (Gf 12 (Gj X 270 [Ga 6,Ga 1])) (Gb (Gq (orL [Gi (Gs X 240 (some 17) 206 (Ga 11) []) [(.NotEq,(Gn false []))],Gi (Gs X 240 none 218 (Ga 11) [Gc (.str 0)]) [(.NotEq,(Gn false []))],Gi (Gs X 240 none 218 (Ga 11) [Gc (.str 1)]) [(.NotEq,(Gn false []))],Gi (Gs X 240 (some 18) 213 (Ga 11) []) [(.NotEq,(Gn false []))]]) (Gb (Gm (Gc (.bool false))) Ge) Ge) (Gb (Gm (Gi (Gj X 265 [Ga 9,Ga 12]) [(.Eq,(Gj X 265 [Ga 10,Ga 12]))])) Ge))))))))))
theorem zpR{L:Env}(G:Gd (X.push L) (hK P))(hd:n<430){ns:List Int}{sp:Int}(h0:0<=sp)(h1:sp<=30){ps:List (Bool×Ent)}(gp:GoodPs ps)(q:∀O',Q (.bool true) O'){days scale:Int}{u5 u7 u8 u9 u10 u11 u12:Option AV} :
  zp1 (X.push L) ⟨n+1,false⟩ [some (.lst (ns.map .int)),some (.int sp),some (.int days),some (.int scale),some (.int (ps.length:Nat)),u5,some (.lst (ps.map q9)),u7,u8,u9,u10,u11,u12] (A.w8 Q) (G6 Z) O:=by
 have hl:=gp.len;refine jl G (by exact ziD hd) (k:=3) ?_;obtain⟨t,et,ht⟩:=zkF (ns.getD 3 0) (m:=ps.length+1) (fCH _);have et:(ns.getD 3 0).fmod ((ps.length:Int)+1)=(t:Nat):=et;have ht:t<=ps.length:=fBS ht
 conv=>whnf
 rw[et,zrX q9 ht,zrW q9 ht];refine zV (by rw[fC,fC,fBF,fAT];exact zvj hl) ?_;rw[<-fW];have pm:ps.Perm (ps.drop t++ps.take t):=by
  have:(ps.take t++ps.drop t).Perm (ps.drop t++ps.take t):=fBP;rwa [fA5] at this
 generalize ps.drop t++ps.take t=qs at pm ⊢;refine jl G (by exact ziD hd) (k:=3) ?_;refine zcD (λ_=>?_) λ_=>?_
 .conv=>whnf
  rw[<-List.map_reverse];exact zhA G hd h0 h1 gp (pm.trans (List.reverse_perm qs).symm) q
 .exact zhA G hd h0 h1 gp pm q
theorem at4(c:Int):∃d:Int,j8 [AV.int 5,.int 20,.int 5,.int 10000] (c.fmod 4)=some (.int d)/\(0<d/\d<=10000):=by
 have h:=zfO (c:=c) (xs:=[5,20,5,10000]) 4 rfl (by decide);exact zd _ h.1 ((by decide:∀x∈([5,20,5,10000]:List Int),0<x/\x<=10000) _ h.2)
theorem zoD(c d:Int):1<=1+c.fmod 2*d.fmod (10 ^ Int.toNat 8)/\1+c.fmod 2*d.fmod (10 ^ Int.toNat 8)<=100000000:=by
 have s1:=pJ c (show (0:Int)<2 by decide);have s2:=pW c (show (0:Int)<2 by decide);have s3:=pJ d (show (0:Int)<10 ^ Int.toNat 8 by decide);have s4:=pW d (show (0:Int)<10 ^ Int.toNat 8 by decide);have e:(10:Int) ^ Int.toNat 8=100000000:=by decide
 rw[e] at s3 s4 ⊢;generalize c.fmod 2=a at s1 s2 ⊢;generalize d.fmod 100000000=b at s3 s4 ⊢
 rcases bit s1 s2 with rfl|rfl
 .rw[Int.zero_mul];decide
 .rw[Int.one_mul];exact zuy s3 s4
theorem zkx{L:Env}(G:Gd (X.push L) (hK P))(hd:n<420){ns:List Int}{sp:Int}(h0:0<=sp)(h1:sp<=30)(q:∀O',Q (.bool true) O'){u2 u3 u4 u5 u6 u7 u8 u9 u10 u11 u12:Option AV} :
  zp2 (X.push L) ⟨n+1,false⟩ [some (.lst (ns.map .int)),some (.int sp),u2,u3,u4,u5,u6,u7,u8,u9,u10,u11,u12] (A.w8 Q) (G6 Z) O:=by
 refine jl G (by exact ziC hd) (k:=1) ?_;refine zb (at4 (ns.getD 1 0)) λdays ew hd0=>?_;refine zi ew ?_;refine jl G (by exact ziC hd) (k:=1) ?_;refine jl G (by exact ziC hd) (k:=1) ?_;refine qZ (zoK _) ?_;have hs:=zoD ((ns.getD 1 0).fdiv 4) ((ns.getD 1 0).fdiv 8);refine jl G (by exact ziC hd) (k:=2) ?_;obtain⟨N,eN,hN⟩:=zkF (ns.getD 2 0) (m:=9) (by decide);have eN:(ns.getD 2 0).fmod 9=(N:Nat):=eN
 conv=>whnf
 rw[eN];generalize 1+((ns.getD 1 0).fdiv 4).fmod 2*((ns.getD 1 0).fdiv 8).fmod (10 ^ Int.toNat 8)=scale at hs ⊢;have hds:DsOk days scale:=⟨hd0,hs⟩
 refine zel (fE (fAB hN) (by decide)) ?_;refine js (λi:Nat=>q9 (zda (ns.getD (4+i) 0*48271+31*(i:Int)) days scale)) (λ_=>rfl) (λ_ _=>rfl) (λi hi R q=>?_) trivial (by rw[gY];exact fE (fAB hN) (by decide)) ?_
 .have hi:=gV.mp hi;refine jl G (by exact ziC hd) (k:=4+i) ?_;refine qZ (zez (j:=(i:Int)) (by exact zuq) (by lia)) ?_;exact zgc G (by exact zuW hd) hds q
 .have em:(List.range N).map (λi:Nat=>q9 (zda (ns.getD (4+i) 0*48271+31*(i:Int)) days scale))=((List.range N).map λi:Nat=>zda (ns.getD (4+i) 0*48271+31*(i:Int)) days scale).map q9:=by rw[gA];rfl
  have gp:GoodPs ((List.range N).map λi:Nat=>zda (ns.getD (4+i) 0*48271+31*(i:Int)) days scale):=⟨λp hp=>by
   obtain⟨i,_,rfl⟩:=fG.mp hp;exact zpn hds,by rw[fC,gY];lia⟩
  have el:((List.range N).map λi:Nat=>zda (ns.getD (4+i) 0*48271+31*(i:Int)) days scale).length=N:=by rw[fC,gY]
  rw[em];generalize (List.range N).map (λi:Nat=>zda (ns.getD (4+i) 0*48271+31*(i:Int)) days scale)=ps at gp el ⊢;subst el;unfold A.vF A.vG A.vD mkL;exact zpR G (by exact zuX hd) h0 h1 gp q
theorem zqt{i:Nat}{e:AE}{m:AS}{d:Dp}{l:Loc}{S:zN}{SZ:Addr->Loc->AHeap->Prop}{v:AV}(he:∀{K:zk} {Z:XP},K v O->e d l K Z O)(h:m d (l.set i (some v)) S SZ O):Gb (Gf i e) Ge d l (A.vD m d S SZ) SZ O:=he h
theorem zqc{m:AS}{d:Dp}{l:Loc}{S:zN}{SZ:Addr->Loc->AHeap->Prop}(h:m d l S SZ O):Ge d l (A.vD m d S SZ) SZ O:=h
theorem law_ok(G:Gd X (hK P))(hd:n<400){ns:List Int}(q:∀O',Q (.bool true) O'):CallOk X 275 ⟨n,false⟩ [.lst (ns.map .int)] Q Z O:=by
 refine ztW G (gD hd (by decide)) λL=>?_;have G':=G.push L;refine jl G' (by exact zvY hd) (k:=0) ?_;refine jl G' (by exact zvY hd) (k:=0) ?_;have a1:=pJ (ns.getD 0 0) (show (0:Int)<31 by decide);have a2:=pW (ns.getD 0 0) (show (0:Int)<31 by decide);refine zcD (λh=>?_) λh=>?_
 .have b1:=pJ ((ns.getD 0 0).fmod 31) (show (0:Int)<4 by decide);have b2:=pW ((ns.getD 0 0).fmod 31) (show (0:Int)<4 by decide);refine zqt (v:=.int (((ns.getD 0 0).fmod 31).fmod 4)) (λh=>h) ?_;exact zkx G' (by exact zrD hd) b1 (by lia) q
 .refine zqc ?_;exact zkx G' (by exact zrD hd) a1 (by lia) q
end
theorem argsW_of{R:List WData->List Value->Prop}{w:World}{s₀ s₁:Shared}{args:List WData}{vals:List Value}{as:List Addr}(h:∀l vs ns,s₁.heap.IsList l vs.toArray->IntsAre vs ns->ns.length<=1000000->R [ofPy (.list (ns.map .int))] [.ref l])(hpre:rw_.row.claim.pre args=true)(hlay:WData.layableAll args=true)(hrd:ReadsAllW rw_.row.records (classAt s₀.heap) s₁.heap vals args as)(hwl:WellAll w.params s₁.heap vals args)(hlo:∀a∈as,(a==sysModules)=false):R args vals:=by
 wrow_args hpre hlay hrd hwl hlo
 exact h _ _ _ (by assumption) (by assumption) (by omega)
theorem refW_eq{o:Option Value}{f g:Addr}(h:o=some (.ref f))(h':o=some (.ref g)):f=g:=by rw[h] at h';cases h';rfl
end Mine.Internal
open PySem PySem.W PyProof.Rows
theorem PySem.Challenge.cw_uf060002_11_holds : PySem.Challenge.rw_uf060002_11.Holds := by
 refine Mine.Internal.hd ?_;intro w s₀ s₁ mg mb G Yb fa o pm cd doc dV kV ho hd hcd hD hmg hg args vals as hpre hlay hrd hwl hlo;refine Mine.Internal.argsW_of (R:=λargs vals=>wpAny (model Mine.Internal.rw_.row.prog w) callerA (call (.ref fa) vals) (λv s'=>GoodWG Mine.Internal.rw_.row.claim (classAt s₀.heap) (ExcName.means s₀.heap) args s₁ (.ok (.ret v)) s') (λe s'=>GoodWG Mine.Internal.rw_.row.claim (classAt s₀.heap) (ExcName.means s₀.heap) args s₁ (.error e) s') s₁) (λl vs ns hl hi hn=>?_) hpre hlay hrd hwl hlo;have KX:=kIn_of Yb;refine Ground.open G ?_;intro T B D TE TW;rw[Mine.Internal.dL_name] at hmg;rw[Mine.Internal.refW_eq hmg (mg_of KX T.g (n:="law") (v:=.ref 275) (by kernel_rfl))];refine enter_call ?_;refine codeAny_mono ?_ (λ_ _ g=>GoodW.toG g);refine Mine.Internal.head_of (K:=Mine.Internal.hK w.params) ⟨⟨T.g,T.b,T.nolimit⟩,KX,T.builtins⟩ hl hi hn hg (λ_=>rfl) (postW_of rfl (w_eq_bool rfl rfl) rfl) ?_;intro Q Z O q;exact Mine.Internal.law_ok ⟨⟨T.g,T.b,T.nolimit⟩,KX,T.builtins⟩ (by omega) q
