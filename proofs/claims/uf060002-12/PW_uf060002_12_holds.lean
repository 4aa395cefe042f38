import PyProof.Rows.All
import Wide.All
import OpenK.AllK
import Wide.FinOn
import PySem.Challenge.RW_uf060002_12
set_option Elab.async false
set_option genSizeOf false
set_option genInjectivity false
set_option bootstrap.genMatcherCode false
set_option linter.all false
set_option maxRecDepth 100000
set_option maxHeartbeats 8000000
namespace Mine.Internal
def fA:=@List.mem_cons_self
def fB:=@List.mem_cons_of_mem
def fC:=@List.length_map
def fE:=@Nat.le_trans
def fF:=@List.length_append
def fG:=@List.mem_singleton
def fH:=@List.length_cons
def fJ:=@List.mem_cons
def fM:=@List.forall_mem_cons
def fN:=@Nat.le_refl
def fO:=@List.mem_map
def fP:=@Option.some_ne_none
def fQ:=@List.nodup_cons
def fR:=@List.map_append
def fS:=@List.getD_eq_getElem?_getD
def fT:=@List.mem_append
def fU:=@List.getElem?_eq_getElem
def fV:=@List.length_singleton
def fW:=@List.getElem?_eq_some_iff
def fX:=@Nat.zero_le
def fY:=@Nat.lt_trans
def fZ:=@List.mem_filter
def gA:=@Bool.and_eq_true_iff
def gB:=@List.size_toArray
def gC:=@List.map_map
def gD:=@List.not_mem_nil
def gE:=@List.pairwise_cons
def gF:=@List.append_assoc
def gG:=@List.pairwise_append
def gH:=@List.mem_append_right
def gI:=@Array.toList_push
def gJ:=@List.map_cons
def gK:=@Bool.false_eq_true
def gL:=@List.mem_flatMap
def gM:=@Nat.mul_le_mul_right
def gN:=@List.length_range
def gO:=@Array.toList_append
def gP:=@List.mem_flatten
def gQ:=@Nat.le_of_ble_eq_true
def gR:=@List.nodup_append
def gS:=@List.mem_map_of_mem
def gT:=@List.append_nil
def gU:=@List.length_nil
def gV:=@Int.fmod_nonneg_of_pos
def gW:=@Nat.succ_le_succ
def gX:=@Bool.and_eq_true
def gY:=@List.length_eq_zero_iff
def gZ:=@Nat.succ_lt_succ
def pA:=@Array.length_toList
def pB:=@List.mem_append_left
def pC:=@Nat.le_of_eq
def pD:=@Array.getElem?_toList
def pE:=@List.length_filter_le
def pF:=@List.getElem?_append_left
def pG:=@List.lookup_cons
def pH:=@Nat.lt_succ_of_le
def pI:=@Nat.lt_of_lt_of_le
def pJ:=@Int.fmod_lt_of_pos
def pK:=@List.map_congr_left
def pL:=@List.filter_sublist
def pM:=@List.foldl_cons
def pN:=@List.getElem?_append_right
def pO:=@List.pairwise_singleton
def pP:=@Nat.le_succ_of_le
def pQ:=@Nat.not_lt
def pR:=@List.mem_range
def pS:=@List.flatMap_cons
def pT:=@Option.bind_eq_some_iff
def pU:=@Bool.false_ne_true
def pV:=@Array.getElem?_eq_some_iff
def pW:=@Array.toList_extract
def pX:=@List.find?_cons
def pY:=@List.extract_eq_take_drop
def pZ:=@List.getElem?_map
def fAA:=@Option.isSome_iff_exists
def fAB:=@List.mem_of_getElem?
def fAC:=@Nat.le_add_right
def fAD:=@Nat.le_of_succ_le_succ
def fAE:=@Array.perm_iff_toList_perm
def fAF:=@Int.le_add_of_nonneg_right
def fAG:=@List.mem_range'_1
def fAH:=@List.nil_append
def fAI:=@List.drop_eq_getElem_cons
def fAJ:=@List.exists_mem_of_ne_nil
def fAK:=@List.getElem?_eq_none
def fAL:=@List.mem_iff_getElem?
def fAM:=@List.all_eq_true
def fAN:=@List.length_range'
def fAO:=@Nat.ne_of_lt
def fAP:=@Nat.add_assoc
def fAQ:=@Array.toList_reverse
def fAR:=@List.eq_nil_of_length_eq_zero
def fAS:=@List.getElem?_cons_succ
def fAT:=@Int.eq_ofNat_of_zero_le
def fAU:=@List.dropLast_concat_getLast
def fAV:=@Int.toNat_of_nonneg
def fAW:=@Nat.add_le_add_left
def fAX:=@Option.map_eq_some_iff
def fAY:=@Int.le_trans
def fAZ:=@Int.natCast_nonneg
def fA0:=@Int.lt_of_le_of_lt
def fA1:=@Nat.ble_eq_true_of_le
def fA2:=@List.pairwise_iff_getElem
def fA3:=@Nat.add_zero
def fA4:=@List.pairwise_map
def fA5:=@Int.le_refl
def fA6:=@Bool.toNat_le
def fA7:=@Nat.add_lt_add_left
def fA8:=@List.getElem_mem
def fA9:=@List.filter_cons
def fBA:=@Nat.le_of_lt
def fBB:=@Int.ofNat_lt
def fBC:=@List.take_of_length_le
def fBD:=@Nat.zero_add
def fBE:=@List.length_zipIdx
def fBF:=@List.sublist_cons_self
def fBG:=@Nat.le_antisymm
def fBH:=@List.length_replicate
def fBI:=@List.take_append_drop
def fBJ:=@Nat.le_succ
def fBK:=@Nat.not_succ_le_zero
def fBL:=@List.mem_of_mem_take
def fBM:=@List.nodup_iff_pairwise_ne
def fBN:=@Int.ofNat_le
def fBO:=@List.mem_reverse
def fBP:=@Nat.succ_mul
def fBQ:=@Bool.or_eq_true_iff
def fBR:=@Nat.lt_irrefl
def fBS:=@Int.lt_irrefl
def fBT:=@Nat.not_lt_zero
def fBU:=@Array.forIn_toList
def fBV:=@List.mem_filterMap
def fBW:=@List.append_ne_nil_of_right_ne_nil
def fBX:=@Nat.add_sub_cancel_left
def fBY:=@List.map_id
def fBZ:=@List.eraseIdx_append_of_length_le
def fB0:=@Nat.sub_self
def fB1:=@Bool.not_eq_true'
def fB2:=@List.take_add_one
def fB3:=@Nat.lt_trichotomy
def fB4:=@List.foldl_append
def fB5:=@List.eq_nil_or_concat
def fB6:=@List.concat_eq_append
def fB7:=@List.mem_of_mem_erase
def fB8:=@Int.min_eq_right
def fB9:=@Int.not_le
def fCA:=@Nat.sub_le
def fCB:=@Nat.lt_succ_self
def fCC:=@Int.mul_le_mul_of_nonneg_right
def fCD:=@Nat.succ_lt_succ_iff
def fCE:=@Array.toArray_toList
def fCF:=@Int.mul_le_mul_of_nonneg_left
def fCG:=@Int.min_eq_left
def fCH:=@List.of_mem_zip
def fCI:=@List.reverse_append
def fCJ:=@List.filterMap_cons
def fCK:=@List.length_pos_iff
def fCL:=@Int.le_of_lt
def fCM:=@List.sublist_flatten_of_mem
def fCN:=@Nat.add_le_add
def fCO:=@List.zip_cons_cons
def fCP:=@List.getElem?_drop
def fCQ:=@Int.natAbs_natCast
def fCR:=@List.perm_ext_iff_of_nodup
def fCS:=@List.getElem?_eq_none_iff
def fCT:=@List.mem_of_find?_eq_some
def fCU:=@Int.toNat_natCast
def fCV:=@List.reverse_cons
def fCW:=@List.ext_getElem?
def fCX:=@Nat.lt_succ_of_lt
def fCY:=@Nat.one_mul
def fCZ:=@List.flatten_cons
def fC0:=@Bool.not_true
def fC1:=@Bool.and_true
def fC2:=@List.length_erase_of_mem
def fC3:=@Int.max_eq_right
def fC4:=@List.length_take
def fC5:=@List.isEmpty_map
def fC6:=@Int.add_zero
def fC7:=@Int.le_total
def fC8:=@Nat.ne_of_gt
def fC9:=@Int.lt_trans
def fDA:=@Int.max_eq_left
def fDB:=@Nat.min_le_left
def fDC:=@Bool.or_eq_true
def fDD:=@List.range_succ
def fDE:=@Nat.le_zero
def fDF:=@List.nodup_nil
def fDG:=@Nat.not_le
def fDH:=@Nat.blt_eq
def fDI:=@Int.not_lt
open PySem renaming wpAny_bind -> G8, wpAny_pure -> G9, wpAny_mono -> Ha, wpAny_holding -> Hb, sizeLine_eq -> Hc, wpAny_rule -> Hd, wpAny_forIn_list -> He, wpAny_call_entry -> Hf, wpAny_newList -> Hg, codeAny_mono -> Hh, wpAny_standAt -> Hi, Program -> Hj, codeAny -> Hk, Params -> Hl, mainGlobals -> Hm
open PyProof.Rows renaming wpS_bind -> Hn, wpS_pure -> Ho, wpS_mono -> Hp, pendingOf -> Hq, wpS_forRange -> Hr, listUpdate_at -> Hs, listItems_at -> Ht, arrOf -> Hu, Keyed -> Hv, seqObj -> Hw, get?_update_seq -> Hx
def Hy:=@Option.some.inj
def Hz:=@decide_eq_false
def H0:=@decide_eq_true
def H1:=@of_decide_eq_true
def H3:=@eq_of_beq
open PySem PyProof.Rows PySem.SeqAt PySem.W
def zbv{M:Model}{Γ:Ctx}{p:Pos}{t:Sem Fin}{fs:List Frame}{s s':Shared}{e:End}(h:Runs M Γ p t fs s e s'):s.heap.objs.size<=s'.heap.objs.size:=by
 induction h<;>(try simp only[Shared.setGen,Heap.size_after_update,Heap.size_push] at *)<;>omega
def zkW{M:Model}{Γ:Ctx}{p:Pos}{g:Nat}{r:Resume}{s s':Shared}{res:GenResult}(h:Wakes M Γ p g r s res s'):s.heap.objs.size<=s'.heap.objs.size:=by
 unfold Wakes at h;split at h
 .exact h.elim
 .split at h
  .obtain⟨e₁,s₁,hr,_,_,rfl⟩:=h;exact(zbv hr:(s.setGen g .running).heap.objs.size<=s₁.heap.objs.size)
  .rw[h.2];exact fN _
  .rw[h.2];exact fN _
 .obtain⟨e₁,s₁,hr,_,_,rfl⟩:=h;exact(zbv hr:(s.setGen g .running).heap.objs.size<=s₁.heap.objs.size)
 .rw[h.2];exact fN _
 .rw[h.2];exact fN _
def zrI{α:Type}(M:Model)(Γ:Ctx)(n:Nat)(t:Sem α):∀(Q:α->Pos->Shared->Prop) (E:Value->Pos->Shared->Prop) (p:Pos) (s:Shared),n<=s.heap.objs.size->Sem.wp M Γ t Q E p s->
  Sem.wp M Γ t (λa p' s'=>n<=s'.heap.objs.size/\Q a p' s') (λe p' s'=>n<=s'.heap.objs.size/\E e p' s') p s:=by
 induction t with
 | pure a=>intro Q E p s hn h;exact⟨hn,h⟩
 | raise e=>intro Q E p s hn h;exact⟨hn,h⟩
 | unsupported _=>intro Q E p s _ h;exact h
 | finish _=>intro Q E p s _ h;exact h
 | rule _ k ih=>intro Q E p s hn h;exact ih () Q E p s hn h
 | «at» p' k ih=>intro Q E p s hn h;exact ih () Q E p' s hn h
 | load a _ k ih=>intro Q E p s hn h;obtain⟨o,ho,h⟩:=h;exact⟨o,ho,ih o Q E p s hn h⟩
 | update a _ f k ih=>intro Q E p s hn h;exact⟨h.1,ih () Q E p _ (by simpa using hn) h.2⟩
 | loadIfAlive a k ih=>intro Q E p s hn h;exact ih _ Q E p s hn h
 | point _ k ih=>intro Q E p s hn h;exact ih () Q E p s hn h
 | register _ _=>intro Q E p s _ h;exact h
 | alloc o k ih=>intro Q E p s hn h;exact ih _ Q E p _ (by simp;omega) h
 | fresh k ih=>intro Q E p s hn h;exact ih _ Q E p { s with toks:=s.toks+1 } hn h
 | ask k ih=>intro Q E p s hn h;exact ih _ Q E p s hn h
 | choose src m k ih=>intro Q E p s hn h;exact⟨h.1,ih _ Q E p { s with drawn:=s.drawn.bump src } hn h.2⟩
 | os q _ k ih=>intro Q E p s hn h;exact ih _ Q E p { s with os:=(Os.step s.os q).1 } hn h
 | call c hd _ _ k ih=>intro Q E p s hn h;obtain⟨r,s',hr,h⟩:=h;exact⟨r,s',hr,ih r Q E p s' (fE hn (zbv hr)) h⟩
 | handled own k ih=>intro Q E p s hn h;exact ih _ Q E p s hn h
 | genState g k ih=>intro Q E p s hn h;obtain⟨st,hs,h⟩:=h;exact⟨st,hs,ih _ Q E p s hn h⟩
 | newGen c k ih=>intro Q E p s hn h;exact ih _ Q E p { s with gens:=s.gens.push (.fresh c) } hn h
 | resume g r _ k ih=>intro Q E p s hn h;obtain⟨res,s',hw,h⟩:=h;exact⟨res,s',hw,ih res Q E p s' (fE hn (zkW hw)) h⟩
 | yield _ _ _ _=>intro Q E p s _ h;exact h
 | stack k ih=>intro Q E p s hn h;exact ih _ Q E p s hn h
 | fork _ _=>intro Q E p s _ h;exact h
 | thread k ih=>intro Q E p s hn h;exact ih _ Q E p s hn h
 | await _ _ _ _ _=>intro Q E p s _ h;exact h
def zM{α:Type}{M:Model}{A:Around}{s:Shared}{t:Sem α}{Q:α->Shared->Prop}{E:Value->Shared->Prop}
  (h:wpAny M A t (λa s'=>s.heap.objs.size<=s'.heap.objs.size->Q a s') (λe s'=>s.heap.objs.size<=s'.heap.objs.size->E e s') s):wpAny M A t Q E s:=
 λΓ p hΓ=>by
  have:=zrI M Γ s.heap.objs.size t _ _ p s (fN _) (h Γ p hΓ);exact Sem.wp_mono M Γ t (λa _ s' x=>x.2 x.1) (λe _ s' x=>x.2 x.1) p s this
def zmi{M:Model}{A:Around}{s:Shared}{c:Code}{R:Result->Shared->Prop}(h:Hk M A c (λr s'=>s.heap.objs.size<=s'.heap.objs.size->R r s') s):Hk M A c R s:=
 λΓ p hc hΓ=>by obtain⟨r,s',hr,hR⟩:=h Γ p hc hΓ;exact⟨r,s',hr,hR (zbv hr)⟩
section
set_option maxRecDepth 1000000
open PySem.Calls
noncomputable def zui(P:Hl):BT:=((((((((((BT.nil.ins 0 (boot_o_0 P)).ins 1 (boot_o_1 P)).ins 2 (boot_o_2 P)).ins 3 (boot_o_3 P)).ins 4 (boot_o_4 P)).ins 5 (boot_o_5 P)).ins 6 (boot_o_6 P)).ins 7 (boot_o_7 P)).ins 8 (boot_o_8 P)).ins 9 (boot_o_9 P)).ins 10 (boot_o_10 P)
noncomputable def zn1(w:World)(os:OsState):SharedT:=⟨zui w.params,11,(boot_heap w.params).life,Array.mk [],boot_drawn,boot_toks,os⟩
def zn2(w:World)(os:OsState):(zn1 w os).abs=⟨boot_heap w.params,Array.mk [],boot_drawn,boot_toks,os⟩:=by kernel_rfl
def zl8(P:Hl):(boot_heap P).isNs Hm=true:=by kernel_rfl
def zl7(P:Hl):(boot_heap P).objs.size=11:=by kernel_rfl
def zn3(P:Hl):(boot_heap P).nsMap Hm "__annotations__" = some (.ref 6):=by kernel_rfl
def zpI{tb:String->Option Builtin}{p:Hj}{w:World}{n₀:Nat}{ann:Option Value}:∀{n:Nat} {s s':Shared} {t:Thread} {f:Flow} {c:Code} {q:Pos},segRun tb p w n₀ ann 0 n s t=some (f,s',c,q)->topRun tb p w n₀ ann n s t=some s':=by
 intro n
 induction n with
 | zero=>intro s s' t f c q h;cases h
 | succ n ih=>
  intro s s' t f c q h;unfold segRun at h;unfold topRun;have ht:through t=(endAt 0 t).isSome:=by
   obtain⟨cur,code,pos,stack⟩:=t;cases stack with
   | nil=>
    cases cur with
    | pure x=>cases x<;>rfl
    | _=>rfl
   | cons a l=>rfl
  rw[ht];cases he:endAt 0 t with
  | some x=>rw[he] at h;cases h;rfl
  | none=>
   rw[he] at h;dsimp only[Option.isSome_none];cases hk:stepOk n₀ ann t with
   | false=>rw[hk] at h;cases h
   | true=>
    rw[hk] at h;cases hs:step (denote tb) p w s t with
    | halt o s₂=>rw[hs] at h;cases h
    | go s₂ t₂=>rw[hs] at h;exact ih h
noncomputable def zhq{α:Type}(p q:Hj)(loose:List Str)(Xt:Shared->Bool)(Yf:Shared->α)(P:Hl)(s:Shared):=
 (staticsOk (importedModules p.main.body) (boot_heap P) s.heap&&namesBound p s.heap&&gensDone s&&laidKept (boot_heap P) s.heap,openSeen q loose (importedModules p.main.body) Xt true s,Yf s)
def zmN{p q:Hj}{loose:List Str}{Xt:Shared->Bool}{α:Type}{Yf:Shared->α}{Ya:World->α}{N:Nat}
  (e:opening p=plainProg p.main.scope.names)(hN:Nat.ble 600 N=true)(f:∀s,fenceModules? p s=some s)
  (h:∀(w:World) (os:OsState),(segRunT treeTable p w 11 (some (.ref 6)) 0 N (zn1 w os) (topStub p)).map (λr=>zhq p q loose Xt Yf w.params r.2.1.abs)=some (true,openGood q loose,Ya w)):LeftO p q loose Xt Yf Ya N true:=by
 intro w;obtain⟨⟨hp,gs,d,k,os⟩,hs,hv⟩:=fAX.mp (boot_open e hN f w);obtain⟨rfl,rfl,rfl,rfl⟩:hp=boot_heap w.params/\gs=Array.mk []/\d=boot_drawn/\k=boot_toks:=by simpa using hv
 obtain⟨⟨fl,sT,c,q'⟩,hr,hl⟩:=fAX.mp (h w os);obtain⟨l1,l2,l3⟩:_/\_/\_:=by simpa only[zhq,Prod.mk.injEq] using hl
 have r:=zpI (segRun_of hr);rw[zn2] at r;have t:topFrom treeTable p w N ⟨boot_heap w.params,Array.mk [],boot_drawn,boot_toks,os⟩=some sT.abs:=by
  unfold topFrom;dsimp only;rw[zl8,zl7,zn3,r];show (match staticsOk (importedModules p.main.body) (boot_heap w.params) sT.abs.heap&&namesBound p sT.abs.heap&&gensDone sT.abs&&laidKept (boot_heap w.params) sT.abs.heap with|true=>some sT.abs|false=>none)=_;rw[l1]
 unfold openEnds;rw[hs];show (topFrom treeTable p w N _).map _=_;rw[t];exact congrArg some (Prod.ext l2 l3)
noncomputable def fnO(s:Stmt)(pm cd:Value):Obj:=match s with
 | .FunctionDef name args body _ _ _ scope _ _ _=>⟨.type "function",none,.func { name:=name,qualname:=name,params:=args,body:=.stmts body,scope:=scope,globals:=3,closure:=[],defaults:=.none,kwdefaults:=.none,pyModule:=pm,code:=cd },#[]⟩
 | _=>default
noncomputable def fnQ(s:Stmt)(q:Str)(pm cd:Value):Obj:=match s with
 | .FunctionDef name args body _ _ _ scope _ _ _=>⟨.type "function",none,.func { name:=name,qualname:=q,params:=args,body:=.stmts body,scope:=scope,globals:=3,closure:=[],defaults:=.none,kwdefaults:=.none,pyModule:=pm,code:=cd },#[]⟩
 | _=>default
noncomputable def zbb(s:Stmt)(j:Nat):Stmt:=match s with
 | .ClassDef _ _ _ body _ _ _ _ _ _ _=>body.getD j (.Pass ⟨0,0,0,0⟩)
 | s=>s
noncomputable def en(P:Hl)(x:Str)(t:Tok)(v:Value):DictEntry:=⟨PyData.keyHash P x,.str x t,v⟩
end
section
variable{A1 A2 A3 A4 A5 A6 A7 A8 A9 A10 A11 A12 A13 A14 A15 A16:Sort _}{G:Prop}{O1 O2 O3 O4 O5 O6 O7 O8 O9 O10 O11 O12 O13 O14:Prop}{P1 P2 P3 P4 P5 P6 P7 P8:A1->Prop}{Q1 Q2 Q3 Q4 Q5 Q6 Q7 Q8 Q9:A1->A2->Prop}{R1 R2 R3 R4 R5 R6 R7 R8 R9:A1->A2->A3->Prop}{S1 S2 S3 S4 S5 S6 S7 S8 S9:A1->A2->A3->A4->Prop}{T1 T2 T3 T4 T5 T6 T7:A1->A2->A3->A4->A5->Prop}{U1 U2 U3 U4 U5 U6 U7 U8 U9 U10 U11 U12 U13 U14:A1->A2->A3->A4->A5->A6->Prop}{V1 V2 V3 V4 V5 V6 V7 V8 V9 V10 V11 V12 V13 V14:A1->A2->A3->A4->A5->A6->A7->Prop}{W1 W2 W3:A1->A2->A3->A4->A5->A6->A7->A8->Prop}{J1 J2 J3 J4:A1->A2->A3->A4->A5->A6->A7->A8->A9->A10->A11->A12->A13->A14->A15->A16->Prop}
def nos{α:Type}{x:α}{P:Prop}(h:none=some x):P:=nomatch h
def nob{P:Prop}(h:false=true):P:=nomatch h
def jT(h:O1/\O2)(k:O1->O2->G):G:=by obtain⟨p1,p2⟩:=h;exact k p1 p2
def z8(h:∃a,P1 a)(k:∀a,P1 a->G):G:=by obtain⟨a,p1⟩:=h;exact k a p1
def zZ(h:O1/\O2/\O3)(k:O1->O2->O3->G):G:=by obtain⟨p1,p2,p3⟩:=h;exact k p1 p2 p3
def z9(h:∃a b,Q1 a b)(k:∀a b,Q1 a b->G):G:=by obtain⟨a,b,p1⟩:=h;exact k a b p1
def zB(h:O1/\O2/\O3/\O4)(k:O1->O2->O3->O4->G):G:=by obtain⟨p1,p2,p3,p4⟩:=h;exact k p1 p2 p3 p4
def qD(h:∃a b c,R1 a b c)(k:∀a b c,R1 a b c->G):G:=by obtain⟨a,b,c,p1⟩:=h;exact k a b c p1
def jC(h:O1/\O2/\O3/\O4/\O5)(k:O1->O2->O3->O4->O5->G):G:=by obtain⟨p1,p2,p3,p4,p5⟩:=h;exact k p1 p2 p3 p4 p5
def qU(h:∃a b c d,S1 a b c d)(k:∀a b c d,S1 a b c d->G):G:=by obtain⟨a,b,c,d,p1⟩:=h;exact k a b c d p1
def zcb(h:O1/\O2/\O3/\O4/\O5/\O6)(k:O1->O2->O3->O4->O5->O6->G):G:=by obtain⟨p1,p2,p3,p4,p5,p6⟩:=h;exact k p1 p2 p3 p4 p5 p6
def zec(h:∃a b c d e,T1 a b c d e)(k:∀a b c d e,T1 a b c d e->G):G:=by obtain⟨a,b,c,d,e,p1⟩:=h;exact k a b c d e p1
def zcV(h:O1/\O2/\O3/\O4/\O5/\O6/\O7)(k:O1->O2->O3->O4->O5->O6->O7->G):G:=by obtain⟨p1,p2,p3,p4,p5,p6,p7⟩:=h;exact k p1 p2 p3 p4 p5 p6 p7
def zmm(h:∃a b c d e f,U1 a b c d e f)(k:∀a b c d e f,U1 a b c d e f->G):G:=by obtain⟨a,b,c,d,e,f,p1⟩:=h;exact k a b c d e f p1
def zd7(h:O1/\O2/\O3/\O4/\O5/\O6/\O7/\O8)(k:O1->O2->O3->O4->O5->O6->O7->O8->G):G:=by obtain⟨p1,p2,p3,p4,p5,p6,p7,p8⟩:=h;exact k p1 p2 p3 p4 p5 p6 p7 p8
def zdd(h:O1/\O2/\O3/\O4/\O5/\O6/\O7/\O8/\O9)(k:O1->O2->O3->O4->O5->O6->O7->O8->O9->G):G:=by obtain⟨p1,p2,p3,p4,p5,p6,p7,p8,p9⟩:=h;exact k p1 p2 p3 p4 p5 p6 p7 p8 p9
def zcW(h:O1/\O2/\O3/\O4/\O5/\O6/\O7/\O8/\O9/\O10/\O11/\O12/\O13/\O14)(k:O1->O2->O3->O4->O5->O6->O7->O8->O9->O10->O11->O12->O13->O14->G):G:=by obtain⟨p1,p2,p3,p4,p5,p6,p7,p8,p9,p10,p11,p12,p13,p14⟩:=h;exact k p1 p2 p3 p4 p5 p6 p7 p8 p9 p10 p11 p12 p13 p14
def qT(h:∃a b c d e f g i j l m n o p q r,J1 a b c d e f g i j l m n o p q r)(k:∀a b c d e f g i j l m n o p q r,J1 a b c d e f g i j l m n o p q r->G):G:=by obtain⟨a,b,c,d,e,f,g,i,j,l,m,n,o,p,q,r,p1⟩:=h;exact k a b c d e f g i j l m n o p q r p1
def zut(h:O1/\∃a,P1 a)(k:O1->∀a,P1 a->G):G:=jT h λp1 h=>z8 h λa p2=>k p1 a p2
def zb(h:∃a,P1 a/\P2 a)(k:∀a,P1 a->P2 a->G):G:=z8 h λa h=>jT h λp1 p2=>k a p1 p2
def kN(h:O1/\O2/\∃a,P1 a)(k:O1->O2->∀a,P1 a->G):G:=zZ h λp1 p2 h=>z8 h λa p3=>k p1 p2 a p3
def ko(h:O1/\∃a,P1 a/\P2 a)(k:O1->∀a,P1 a->P2 a->G):G:=jT h λp1 h=>z8 h λa h=>jT h λp2 p3=>k p1 a p2 p3
def zh(h:∃a,P1 a/\P2 a/\P3 a)(k:∀a,P1 a->P2 a->P3 a->G):G:=z8 h λa h=>zZ h λp1 p2 p3=>k a p1 p2 p3
def js(h:∃a b,Q1 a b/\Q2 a b)(k:∀a b,Q1 a b->Q2 a b->G):G:=z9 h λa b h=>jT h λp1 p2=>k a b p1 p2
def zqy(h:O1/\∃a,P1 a/\P2 a/\P3 a)(k:O1->∀a,P1 a->P2 a->P3 a->G):G:=jT h λp1 h=>z8 h λa h=>zZ h λp2 p3 p4=>k p1 a p2 p3 p4
def zqz(h:O1/\∃a b,Q1 a b/\Q2 a b)(k:O1->∀a b,Q1 a b->Q2 a b->G):G:=jT h λp1 h=>z9 h λa b h=>jT h λp2 p3=>k p1 a b p2 p3
def zE(h:∃a,P1 a/\P2 a/\P3 a/\P4 a)(k:∀a,P1 a->P2 a->P3 a->P4 a->G):G:=z8 h λa h=>zB h λp1 p2 p3 p4=>k a p1 p2 p3 p4
def jM(h:∃a,P1 a/\P2 a/\∃b,Q1 a b)(k:∀a,P1 a->P2 a->∀b,Q1 a b->G):G:=z8 h λa h=>zZ h λp1 p2 h=>z8 h λb p3=>k a p1 p2 b p3
def zm(h:∃a b,Q1 a b/\Q2 a b/\Q3 a b)(k:∀a b,Q1 a b->Q2 a b->Q3 a b->G):G:=z9 h λa b h=>zZ h λp1 p2 p3=>k a b p1 p2 p3
def jh(h:∃a b c,R1 a b c/\R2 a b c)(k:∀a b c,R1 a b c->R2 a b c->G):G:=qD h λa b c h=>jT h λp1 p2=>k a b c p1 p2
def zhQ(h:O1/\O2/\O3/\O4/\∃a,P1 a)(k:O1->O2->O3->O4->∀a,P1 a->G):G:=jC h λp1 p2 p3 p4 h=>z8 h λa p5=>k p1 p2 p3 p4 a p5
def zcc(h:O1/\O2/\∃a b,Q1 a b/\Q2 a b)(k:O1->O2->∀a b,Q1 a b->Q2 a b->G):G:=zZ h λp1 p2 h=>z9 h λa b h=>jT h λp3 p4=>k p1 p2 a b p3 p4
def zd8(h:O1/\∃a b c,R1 a b c/\R2 a b c)(k:O1->∀a b c,R1 a b c->R2 a b c->G):G:=jT h λp1 h=>qD h λa b c h=>jT h λp2 p3=>k p1 a b c p2 p3
def zhR(h:∃a,P1 a/\P2 a/\P3 a/\P4 a/\P5 a)(k:∀a,P1 a->P2 a->P3 a->P4 a->P5 a->G):G:=z8 h λa h=>jC h λp1 p2 p3 p4 p5=>k a p1 p2 p3 p4 p5
def kY(h:∃a,P1 a/\∃b,Q1 a b/\Q2 a b/\Q3 a b)(k:∀a,P1 a->∀b,Q1 a b->Q2 a b->Q3 a b->G):G:=z8 h λa h=>jT h λp1 h=>z8 h λb h=>zZ h λp2 p3 p4=>k a p1 b p2 p3 p4
def zj(h:∃a b,Q1 a b/\Q2 a b/\Q3 a b/\Q4 a b)(k:∀a b,Q1 a b->Q2 a b->Q3 a b->Q4 a b->G):G:=z9 h λa b h=>zB h λp1 p2 p3 p4=>k a b p1 p2 p3 p4
def jt(h:∃a b c,R1 a b c/\R2 a b c/\R3 a b c)(k:∀a b c,R1 a b c->R2 a b c->R3 a b c->G):G:=qD h λa b c h=>zZ h λp1 p2 p3=>k a b c p1 p2 p3
def zml(h:O1/\∃a b,Q1 a b/\Q2 a b/\Q3 a b/\Q4 a b)(k:O1->∀a b,Q1 a b->Q2 a b->Q3 a b->Q4 a b->G):G:=jT h λp1 h=>z9 h λa b h=>zB h λp2 p3 p4 p5=>k p1 a b p2 p3 p4 p5
def zv(h:∃a b,Q1 a b/\Q2 a b/\Q3 a b/\Q4 a b/\Q5 a b)(k:∀a b,Q1 a b->Q2 a b->Q3 a b->Q4 a b->Q5 a b->G):G:=z9 h λa b h=>jC h λp1 p2 p3 p4 p5=>k a b p1 p2 p3 p4 p5
def zbq(h:∃a b c,R1 a b c/\R2 a b c/\R3 a b c/\R4 a b c)(k:∀a b c,R1 a b c->R2 a b c->R3 a b c->R4 a b c->G):G:=qD h λa b c h=>zB h λp1 p2 p3 p4=>k a b c p1 p2 p3 p4
def q9(h:∃a b c d,S1 a b c d/\S2 a b c d/\S3 a b c d)(k:∀a b c d,S1 a b c d->S2 a b c d->S3 a b c d->G):G:=qU h λa b c d h=>zZ h λp1 p2 p3=>k a b c d p1 p2 p3
def qB(h:O1/\∃a b,Q1 a b/\Q2 a b/\Q3 a b/\Q4 a b/\Q5 a b)(k:O1->∀a b,Q1 a b->Q2 a b->Q3 a b->Q4 a b->Q5 a b->G):G:=jT h λp1 h=>z9 h λa b h=>jC h λp2 p3 p4 p5 p6=>k p1 a b p2 p3 p4 p5 p6
def zd9(h:∃a,P1 a/\P2 a/\P3 a/\P4 a/\P5 a/\P6 a/\P7 a)(k:∀a,P1 a->P2 a->P3 a->P4 a->P5 a->P6 a->P7 a->G):G:=z8 h λa h=>zcV h λp1 p2 p3 p4 p5 p6 p7=>k a p1 p2 p3 p4 p5 p6 p7
def zea(h:∃a b,Q1 a b/\Q2 a b/\Q3 a b/\Q4 a b/\Q5 a b/\Q6 a b)(k:∀a b,Q1 a b->Q2 a b->Q3 a b->Q4 a b->Q5 a b->Q6 a b->G):G:=z9 h λa b h=>zcb h λp1 p2 p3 p4 p5 p6=>k a b p1 p2 p3 p4 p5 p6
def zjE(h:∃a b,Q1 a b/\Q2 a b/\Q3 a b/\∃c,R1 a b c/\R2 a b c)(k:∀a b,Q1 a b->Q2 a b->Q3 a b->∀c,R1 a b c->R2 a b c->G):G:=z9 h λa b h=>zB h λp1 p2 p3 h=>z8 h λc h=>jT h λp4 p5=>k a b p1 p2 p3 c p4 p5
def qc(h:∃a b c,R1 a b c/\R2 a b c/\R3 a b c/\R4 a b c/\R5 a b c)(k:∀a b c,R1 a b c->R2 a b c->R3 a b c->R4 a b c->R5 a b c->G):G:=qD h λa b c h=>jC h λp1 p2 p3 p4 p5=>k a b c p1 p2 p3 p4 p5
def kJ(h:O1/\∃a b,Q1 a b/\Q2 a b/\Q3 a b/\Q4 a b/\Q5 a b/\Q6 a b)(k:O1->∀a b,Q1 a b->Q2 a b->Q3 a b->Q4 a b->Q5 a b->Q6 a b->G):G:=jT h λp1 h=>z9 h λa b h=>zcb h λp2 p3 p4 p5 p6 p7=>k p1 a b p2 p3 p4 p5 p6 p7
def zhS(h:∃a,P1 a/\P2 a/\P3 a/\P4 a/\P5 a/\P6 a/\P7 a/\P8 a)(k:∀a,P1 a->P2 a->P3 a->P4 a->P5 a->P6 a->P7 a->P8 a->G):G:=z8 h λa h=>zd7 h λp1 p2 p3 p4 p5 p6 p7 p8=>k a p1 p2 p3 p4 p5 p6 p7 p8
def ji(h:∃a b c,R1 a b c/\R2 a b c/\R3 a b c/\R4 a b c/\R5 a b c/\R6 a b c)(k:∀a b c,R1 a b c->R2 a b c->R3 a b c->R4 a b c->R5 a b c->R6 a b c->G):G:=qD h λa b c h=>zcb h λp1 p2 p3 p4 p5 p6=>k a b c p1 p2 p3 p4 p5 p6
def zhT(h:∃a b c,R1 a b c/\∃d,S1 a b c d/\S2 a b c d/\∃e,T1 a b c d e)(k:∀a b c,R1 a b c->∀d,S1 a b c d->S2 a b c d->∀e,T1 a b c d e->G):G:=qD h λa b c h=>jT h λp1 h=>z8 h λd h=>zZ h λp2 p3 h=>z8 h λe p4=>k a b c p1 d p2 p3 e p4
def zW(h:∃a b c d,S1 a b c d/\S2 a b c d/\S3 a b c d/\S4 a b c d/\S5 a b c d)(k:∀a b c d,S1 a b c d->S2 a b c d->S3 a b c d->S4 a b c d->S5 a b c d->G):G:=qU h λa b c d h=>jC h λp1 p2 p3 p4 p5=>k a b c d p1 p2 p3 p4 p5
def jU(h:∃a b c d,S1 a b c d/\S2 a b c d/\S3 a b c d/\S4 a b c d/\S5 a b c d/\S6 a b c d)(k:∀a b c d,S1 a b c d->S2 a b c d->S3 a b c d->S4 a b c d->S5 a b c d->S6 a b c d->G):G:=qU h λa b c d h=>zcb h λp1 p2 p3 p4 p5 p6=>k a b c d p1 p2 p3 p4 p5 p6
def zfe(h:∃a b,Q1 a b/\Q2 a b/\Q3 a b/\Q4 a b/\Q5 a b/\Q6 a b/\Q7 a b/\Q8 a b/\Q9 a b)(k:∀a b,Q1 a b->Q2 a b->Q3 a b->Q4 a b->Q5 a b->Q6 a b->Q7 a b->Q8 a b->Q9 a b->G):G:=z9 h λa b h=>zdd h λp1 p2 p3 p4 p5 p6 p7 p8 p9=>k a b p1 p2 p3 p4 p5 p6 p7 p8 p9
def zff(h:∃a b c,R1 a b c/\R2 a b c/\R3 a b c/\R4 a b c/\R5 a b c/\R6 a b c/\R7 a b c/\R8 a b c)(k:∀a b c,R1 a b c->R2 a b c->R3 a b c->R4 a b c->R5 a b c->R6 a b c->R7 a b c->R8 a b c->G):G:=qD h λa b c h=>zd7 h λp1 p2 p3 p4 p5 p6 p7 p8=>k a b c p1 p2 p3 p4 p5 p6 p7 p8
def zeb(h:∃a b c,R1 a b c/\R2 a b c/\R3 a b c/\R4 a b c/\R5 a b c/\R6 a b c/\R7 a b c/\R8 a b c/\R9 a b c)(k:∀a b c,R1 a b c->R2 a b c->R3 a b c->R4 a b c->R5 a b c->R6 a b c->R7 a b c->R8 a b c->R9 a b c->G):G:=qD h λa b c h=>zdd h λp1 p2 p3 p4 p5 p6 p7 p8 p9=>k a b c p1 p2 p3 p4 p5 p6 p7 p8 p9
def kq(h:∃a b c d e,T1 a b c d e/\T2 a b c d e/\T3 a b c d e/\T4 a b c d e/\T5 a b c d e/\T6 a b c d e/\T7 a b c d e)(k:∀a b c d e,T1 a b c d e->T2 a b c d e->T3 a b c d e->T4 a b c d e->T5 a b c d e->T6 a b c d e->T7 a b c d e->G):G:=zec h λa b c d e h=>zcV h λp1 p2 p3 p4 p5 p6 p7=>k a b c d e p1 p2 p3 p4 p5 p6 p7
def qN(h:∃a b c d e f g i j l m n o p q r,J1 a b c d e f g i j l m n o p q r/\J2 a b c d e f g i j l m n o p q r)(k:∀a b c d e f g i j l m n o p q r,J1 a b c d e f g i j l m n o p q r->J2 a b c d e f g i j l m n o p q r->G):G:=qT h λa b c d e f g i j l m n o p q r h=>jT h λp1 p2=>k a b c d e f g i j l m n o p q r p1 p2
def zau(h:∃a b c d e f,U1 a b c d e f/\U2 a b c d e f/\U3 a b c d e f/\U4 a b c d e f/\U5 a b c d e f/\U6 a b c d e f/\U7 a b c d e f/\U8 a b c d e f/\U9 a b c d e f/\U10 a b c d e f/\U11 a b c d e f/\U12 a b c d e f/\U13 a b c d e f/\U14 a b c d e f)(k:∀a b c d e f,U1 a b c d e f->U2 a b c d e f->U3 a b c d e f->U4 a b c d e f->U5 a b c d e f->U6 a b c d e f->U7 a b c d e f->U8 a b c d e f->U9 a b c d e f->U10 a b c d e f->U11 a b c d e f->U12 a b c d e f->U13 a b c d e f->U14 a b c d e f->G):G:=zmm h λa b c d e f h=>zcW h λp1 p2 p3 p4 p5 p6 p7 p8 p9 p10 p11 p12 p13 p14=>k a b c d e f p1 p2 p3 p4 p5 p6 p7 p8 p9 p10 p11 p12 p13 p14
def ql(h:∃a b c d e f g i j l m n o p q r,J1 a b c d e f g i j l m n o p q r/\J2 a b c d e f g i j l m n o p q r/\J3 a b c d e f g i j l m n o p q r/\J4 a b c d e f g i j l m n o p q r)(k:∀a b c d e f g i j l m n o p q r,J1 a b c d e f g i j l m n o p q r->J2 a b c d e f g i j l m n o p q r->J3 a b c d e f g i j l m n o p q r->J4 a b c d e f g i j l m n o p q r->G):G:=qT h λa b c d e f g i j l m n o p q r h=>zB h λp1 p2 p3 p4=>k a b c d e f g i j l m n o p q r p1 p2 p3 p4
def kx(p1:O1)(p2:O2):O1/\O2:=⟨p1,p2⟩
def zaX(a)(p1:P1 a):∃a,P1 a:=⟨a,p1⟩
def zo(p1:O1)(p2:O2)(p3:O3):O1/\O2/\O3:=⟨p1,p2,p3⟩
def jy(a)(b)(p1:Q1 a b):∃a b,Q1 a b:=⟨a,b,p1⟩
def zp(p1:O1)(p2:O2)(p3:O3)(p4:O4):O1/\O2/\O3/\O4:=⟨p1,p2,p3,p4⟩
def jk(a)(b)(c)(p1:R1 a b c):∃a b c,R1 a b c:=⟨a,b,c,p1⟩
def jo(p1:O1)(p2:O2)(p3:O3)(p4:O4)(p5:O5):O1/\O2/\O3/\O4/\O5:=⟨p1,p2,p3,p4,p5⟩
def zgJ(a)(b)(c)(d)(p1:S1 a b c d):∃a b c d,S1 a b c d:=⟨a,b,c,d,p1⟩
def j5(p1:O1)(p2:O2)(p3:O3)(p4:O4)(p5:O5)(p6:O6):O1/\O2/\O3/\O4/\O5/\O6:=⟨p1,p2,p3,p4,p5,p6⟩
def zoD(a)(b)(c)(d)(e)(p1:T1 a b c d e):∃a b c d e,T1 a b c d e:=⟨a,b,c,d,e,p1⟩
def zfJ(p1:O1)(p2:O2)(p3:O3)(p4:O4)(p5:O5)(p6:O6)(p7:O7):O1/\O2/\O3/\O4/\O5/\O6/\O7:=⟨p1,p2,p3,p4,p5,p6,p7⟩
def zfK(a)(b)(c)(d)(e)(f)(p1:U1 a b c d e f):∃a b c d e f,U1 a b c d e f:=⟨a,b,c,d,e,f,p1⟩
def zeg(p1:O1)(p2:O2)(p3:O3)(p4:O4)(p5:O5)(p6:O6)(p7:O7)(p8:O8):O1/\O2/\O3/\O4/\O5/\O6/\O7/\O8:=⟨p1,p2,p3,p4,p5,p6,p7,p8⟩
def zdh(p1:O1)(p2:O2)(p3:O3)(p4:O4)(p5:O5)(p6:O6)(p7:O7)(p8:O8)(p9:O9):O1/\O2/\O3/\O4/\O5/\O6/\O7/\O8/\O9:=⟨p1,p2,p3,p4,p5,p6,p7,p8,p9⟩
def k8(p1:O1)(p2:O2)(p3:O3)(p4:O4)(p5:O5)(p6:O6)(p7:O7)(p8:O8)(p9:O9)(p10:O10)(p11:O11)(p12:O12)(p13:O13)(p14:O14):O1/\O2/\O3/\O4/\O5/\O6/\O7/\O8/\O9/\O10/\O11/\O12/\O13/\O14:=⟨p1,p2,p3,p4,p5,p6,p7,p8,p9,p10,p11,p12,p13,p14⟩
def zuw(p1:O1)(a)(p2:P1 a):O1/\∃a,P1 a:=kx p1 (zaX a p2)
def zc(a)(p1:P1 a)(p2:P2 a):∃a,P1 a/\P2 a:=zaX a (kx p1 p2)
def zay(p1:O1)(p2:O2)(a)(p3:P1 a):O1/\O2/\∃a,P1 a:=zo p1 p2 (zaX a p3)
def kP(p1:O1)(a)(p2:P1 a)(p3:P2 a):O1/\∃a,P1 a/\P2 a:=kx p1 (zaX a (kx p2 p3))
def zsR(p1:O1)(a)(b)(p2:Q1 a b):O1/\∃a b,Q1 a b:=kx p1 (jy a b p2)
def zr(a)(p1:P1 a)(p2:P2 a)(p3:P3 a):∃a,P1 a/\P2 a/\P3 a:=zaX a (zo p1 p2 p3)
def zaA(a)(b)(p1:Q1 a b)(p2:Q2 a b):∃a b,Q1 a b/\Q2 a b:=jy a b (kx p1 p2)
def zqM(p1:O1)(p2:O2)(a)(p3:P1 a)(p4:P2 a):O1/\O2/\∃a,P1 a/\P2 a:=zo p1 p2 (zaX a (kx p3 p4))
def zgG(p1:O1)(a)(p2:P1 a)(p3:P2 a)(p4:P3 a):O1/\∃a,P1 a/\P2 a/\P3 a:=kx p1 (zaX a (zo p2 p3 p4))
def zgH(p1:O1)(a)(b)(p2:Q1 a b)(p3:Q2 a b):O1/\∃a b,Q1 a b/\Q2 a b:=kx p1 (jy a b (kx p2 p3))
def qm(a)(p1:P1 a)(p2:P2 a)(p3:P3 a)(p4:P4 a):∃a,P1 a/\P2 a/\P3 a/\P4 a:=zaX a (zp p1 p2 p3 p4)
def qn(a)(p1:P1 a)(p2:P2 a)(b)(p3:Q1 a b):∃a,P1 a/\P2 a/\∃b,Q1 a b:=zaX a (zo p1 p2 (zaX b p3))
def zN(a)(b)(p1:Q1 a b)(p2:Q2 a b)(p3:Q3 a b):∃a b,Q1 a b/\Q2 a b/\Q3 a b:=jy a b (zo p1 p2 p3)
def qW(a)(b)(c)(p1:R1 a b c)(p2:R2 a b c):∃a b c,R1 a b c/\R2 a b c:=jk a b c (kx p1 p2)
def zoC(p1:O1)(a)(b)(c)(p2:R1 a b c)(p3:R2 a b c):O1/\∃a b c,R1 a b c/\R2 a b c:=kx p1 (jk a b c (kx p2 p3))
def zeh(a)(p1:P1 a)(p2:P2 a)(p3:P3 a)(p4:P4 a)(p5:P5 a):∃a,P1 a/\P2 a/\P3 a/\P4 a/\P5 a:=zaX a (jo p1 p2 p3 p4 p5)
def zh4(a)(p1:P1 a)(b)(p2:Q1 a b)(p3:Q2 a b)(p4:Q3 a b):∃a,P1 a/\∃b,Q1 a b/\Q2 a b/\Q3 a b:=zaX a (kx p1 (zaX b (zo p2 p3 p4)))
def zq(a)(b)(p1:Q1 a b)(p2:Q2 a b)(p3:Q3 a b)(p4:Q4 a b):∃a b,Q1 a b/\Q2 a b/\Q3 a b/\Q4 a b:=jy a b (zp p1 p2 p3 p4)
def ky(a)(b)(c)(p1:R1 a b c)(p2:R2 a b c)(p3:R3 a b c):∃a b c,R1 a b c/\R2 a b c/\R3 a b c:=jk a b c (zo p1 p2 p3)
def zcZ(p1:O1)(a)(b)(p2:Q1 a b)(p3:Q2 a b)(p4:Q3 a b)(p5:Q4 a b):O1/\∃a b,Q1 a b/\Q2 a b/\Q3 a b/\Q4 a b:=kx p1 (jy a b (zp p2 p3 p4 p5))
def jw(a)(b)(p1:Q1 a b)(p2:Q2 a b)(p3:Q3 a b)(p4:Q4 a b)(p5:Q5 a b):∃a b,Q1 a b/\Q2 a b/\Q3 a b/\Q4 a b/\Q5 a b:=jy a b (jo p1 p2 p3 p4 p5)
def jV(a)(b)(c)(p1:R1 a b c)(p2:R2 a b c)(p3:R3 a b c)(p4:R4 a b c):∃a b c,R1 a b c/\R2 a b c/\R3 a b c/\R4 a b c:=jk a b c (zp p1 p2 p3 p4)
def jj(p1:O1)(a)(b)(p2:Q1 a b)(p3:Q2 a b)(p4:Q3 a b)(p5:Q4 a b)(p6:Q5 a b):O1/\∃a b,Q1 a b/\Q2 a b/\Q3 a b/\Q4 a b/\Q5 a b:=kx p1 (jy a b (jo p2 p3 p4 p5 p6))
def zaz(a)(p1:P1 a)(p2:P2 a)(p3:P3 a)(p4:P4 a)(p5:P5 a)(p6:P6 a)(p7:P7 a):∃a,P1 a/\P2 a/\P3 a/\P4 a/\P5 a/\P6 a/\P7 a:=zaX a (zfJ p1 p2 p3 p4 p5 p6 p7)
def zjN(a)(p1:P1 a)(b)(c)(p2:R1 a b c)(p3:R2 a b c)(p4:R3 a b c)(p5:R4 a b c):∃a,P1 a/\∃b c,R1 a b c/\R2 a b c/\R3 a b c/\R4 a b c:=zaX a (kx p1 (jy b c (zp p2 p3 p4 p5)))
def zH(a)(b)(c)(p1:R1 a b c)(p2:R2 a b c)(p3:R3 a b c)(p4:R4 a b c)(p5:R5 a b c):∃a b c,R1 a b c/\R2 a b c/\R3 a b c/\R4 a b c/\R5 a b c:=jk a b c (jo p1 p2 p3 p4 p5)
def qg(p1:O1)(a)(b)(p2:Q1 a b)(p3:Q2 a b)(p4:Q3 a b)(p5:Q4 a b)(p6:Q5 a b)(p7:Q6 a b):O1/\∃a b,Q1 a b/\Q2 a b/\Q3 a b/\Q4 a b/\Q5 a b/\Q6 a b:=kx p1 (jy a b (j5 p2 p3 p4 p5 p6 p7))
def zbd(a)(b)(c)(p1:R1 a b c)(p2:R2 a b c)(p3:R3 a b c)(p4:R4 a b c)(p5:R5 a b c)(p6:R6 a b c):∃a b c,R1 a b c/\R2 a b c/\R3 a b c/\R4 a b c/\R5 a b c/\R6 a b c:=jk a b c (j5 p1 p2 p3 p4 p5 p6)
def jO(a)(b)(c)(d)(p1:S1 a b c d)(p2:S2 a b c d)(p3:S3 a b c d)(p4:S4 a b c d)(p5:S5 a b c d):∃a b c d,S1 a b c d/\S2 a b c d/\S3 a b c d/\S4 a b c d/\S5 a b c d:=zgJ a b c d (jo p1 p2 p3 p4 p5)
def zgI(p1:O1)(a)(b)(c)(p2:R1 a b c)(p3:R2 a b c)(p4:R3 a b c)(p5:R4 a b c)(p6:R5 a b c)(p7:R6 a b c):O1/\∃a b c,R1 a b c/\R2 a b c/\R3 a b c/\R4 a b c/\R5 a b c/\R6 a b c:=kx p1 (jk a b c (j5 p2 p3 p4 p5 p6 p7))
def qX(a)(b)(c)(d)(p1:S1 a b c d)(p2:S2 a b c d)(p3:S3 a b c d)(p4:S4 a b c d)(p5:S5 a b c d)(p6:S6 a b c d):∃a b c d,S1 a b c d/\S2 a b c d/\S3 a b c d/\S4 a b c d/\S5 a b c d/\S6 a b c d:=zgJ a b c d (j5 p1 p2 p3 p4 p5 p6)
def zfh(a)(b)(c)(p1:R1 a b c)(p2:R2 a b c)(p3:R3 a b c)(p4:R4 a b c)(p5:R5 a b c)(p6:R6 a b c)(p7:R7 a b c)(p8:R8 a b c):∃a b c,R1 a b c/\R2 a b c/\R3 a b c/\R4 a b c/\R5 a b c/\R6 a b c/\R7 a b c/\R8 a b c:=jk a b c (zeg p1 p2 p3 p4 p5 p6 p7 p8)
def zbc(a)(b)(p1:Q1 a b)(c)(d)(e)(p2:T1 a b c d e)(p3:T2 a b c d e)(p4:T3 a b c d e)(p5:T4 a b c d e)(p6:T5 a b c d e)(p7:T6 a b c d e):∃a b,Q1 a b/\∃c d e,T1 a b c d e/\T2 a b c d e/\T3 a b c d e/\T4 a b c d e/\T5 a b c d e/\T6 a b c d e:=jy a b (kx p1 (jk c d e (j5 p2 p3 p4 p5 p6 p7)))
def zei(a)(b)(c)(p1:R1 a b c)(p2:R2 a b c)(p3:R3 a b c)(p4:R4 a b c)(p5:R5 a b c)(p6:R6 a b c)(p7:R7 a b c)(p8:R8 a b c)(p9:R9 a b c):∃a b c,R1 a b c/\R2 a b c/\R3 a b c/\R4 a b c/\R5 a b c/\R6 a b c/\R7 a b c/\R8 a b c/\R9 a b c:=jk a b c (zdh p1 p2 p3 p4 p5 p6 p7 p8 p9)
def qo(a)(b)(c)(d)(e)(p1:T1 a b c d e)(p2:T2 a b c d e)(p3:T3 a b c d e)(p4:T4 a b c d e)(p5:T5 a b c d e)(p6:T6 a b c d e)(p7:T7 a b c d e):∃a b c d e,T1 a b c d e/\T2 a b c d e/\T3 a b c d e/\T4 a b c d e/\T5 a b c d e/\T6 a b c d e/\T7 a b c d e:=zoD a b c d e (zfJ p1 p2 p3 p4 p5 p6 p7)
def zaS(a)(p1:P1 a)(b)(c)(d)(p2:S1 a b c d)(p3:S2 a b c d)(p4:S3 a b c d)(p5:S4 a b c d)(p6:S5 a b c d)(p7:S6 a b c d)(p8:S7 a b c d)(p9:S8 a b c d):∃a,P1 a/\∃b c d,S1 a b c d/\S2 a b c d/\S3 a b c d/\S4 a b c d/\S5 a b c d/\S6 a b c d/\S7 a b c d/\S8 a b c d:=zaX a (kx p1 (jk b c d (zeg p2 p3 p4 p5 p6 p7 p8 p9)))
def zc0(a)(p1:P1 a)(b)(c)(d)(p2:S1 a b c d)(p3:S2 a b c d)(p4:S3 a b c d)(p5:S4 a b c d)(p6:S5 a b c d)(p7:S6 a b c d)(p8:S7 a b c d)(p9:S8 a b c d)(p10:S9 a b c d):∃a,P1 a/\∃b c d,S1 a b c d/\S2 a b c d/\S3 a b c d/\S4 a b c d/\S5 a b c d/\S6 a b c d/\S7 a b c d/\S8 a b c d/\S9 a b c d:=zaX a (kx p1 (jk b c d (zdh p2 p3 p4 p5 p6 p7 p8 p9 p10)))
def zaB(a)(b)(c)(d)(e)(f)(p1:U1 a b c d e f)(p2:U2 a b c d e f)(p3:U3 a b c d e f)(p4:U4 a b c d e f)(p5:U5 a b c d e f)(p6:U6 a b c d e f)(p7:U7 a b c d e f)(p8:U8 a b c d e f)(p9:U9 a b c d e f)(p10:U10 a b c d e f)(p11:U11 a b c d e f)(p12:U12 a b c d e f)(p13:U13 a b c d e f)(p14:U14 a b c d e f):∃a b c d e f,U1 a b c d e f/\U2 a b c d e f/\U3 a b c d e f/\U4 a b c d e f/\U5 a b c d e f/\U6 a b c d e f/\U7 a b c d e f/\U8 a b c d e f/\U9 a b c d e f/\U10 a b c d e f/\U11 a b c d e f/\U12 a b c d e f/\U13 a b c d e f/\U14 a b c d e f:=zfK a b c d e f (k8 p1 p2 p3 p4 p5 p6 p7 p8 p9 p10 p11 p12 p13 p14)
def j6(a)(p1:P1 a)(b)(c)(d)(e)(f)(g)(p2:V1 a b c d e f g)(p3:V2 a b c d e f g)(p4:V3 a b c d e f g)(p5:V4 a b c d e f g)(p6:V5 a b c d e f g)(p7:V6 a b c d e f g)(p8:V7 a b c d e f g)(p9:V8 a b c d e f g)(p10:V9 a b c d e f g)(p11:V10 a b c d e f g)(p12:V11 a b c d e f g)(p13:V12 a b c d e f g)(p14:V13 a b c d e f g)(p15:V14 a b c d e f g):∃a,P1 a/\∃b c d e f g,V1 a b c d e f g/\V2 a b c d e f g/\V3 a b c d e f g/\V4 a b c d e f g/\V5 a b c d e f g/\V6 a b c d e f g/\V7 a b c d e f g/\V8 a b c d e f g/\V9 a b c d e f g/\V10 a b c d e f g/\V11 a b c d e f g/\V12 a b c d e f g/\V13 a b c d e f g/\V14 a b c d e f g:=zaX a (kx p1 (zfK b c d e f g (k8 p2 p3 p4 p5 p6 p7 p8 p9 p10 p11 p12 p13 p14 p15)))
end
section
set_option genSizeOf false
set_option genInjectivity false
namespace La
open Lean.Omega
inductive T where
 | v (i:Nat)|n (k:Nat)|a (s t:T)|s (s t:T)|m (k:Nat) (t:T)|x (s t:T)|y (s t:T)|c (t:T)|g (t:T)|o (t:T)
inductive P where
 | l (b:Bool) (s t:T)|e (b:Bool) (s t:T)|a (p q:P)|o (p q:P)|i (p q:P)|f
noncomputable def tv(z:List Int)(t:T):Nat×Int:=
 T.rec (motive:=λ_=>Nat×Int) (λi=>((IntList.get z i).toNat,IntList.get z i)) (λk=>(k,(k:Int))) (λ_ _ s t=>(s.1+t.1,s.2+t.2)) (λ_ _ s t=>(s.1-t.1,s.2-t.2)) (λk _ t=>(k*t.1,(k:Int)*t.2)) (λ_ _ s t=>(max s.1 t.1,max s.2 t.2)) (λ_ _ s t=>(min s.1 t.1,min s.2 t.2)) (λ_ t=>(t.1,(t.1:Int))) (λ_ t=>(0,- t.2)) (λ_ t=>(t.2.toNat,(t.2.toNat:Int))) t
def dn(z:List Int)(p:P):Prop:=
 P.rec (motive:=λ_=>Prop) (λb s t=>bif b then (tv z s).2<=(tv z t).2 else (tv z s).1<=(tv z t).1) (λb s t=>bif b then (tv z s).2=(tv z t).2 else (tv z s).1=(tv z t).1) (λ_ _ p q=>p/\q) (λ_ _ p q=>p\/q) (λ_ _ p q=>p->q) False p
noncomputable abbrev L:=LinearCombo
noncomputable def cc(k:Int):L:=⟨k,[]⟩
noncomputable abbrev K:=L->List L->Bool
noncomputable def lf(n:Nat)(t:T):Bool->List L->K->Bool:=
 T.rec (motive:=λ_=>Bool->List L->K->Bool)
  (λi b cs k=>(b||i.blt n)&&k (.coordinate i) cs)
  (λj _ cs k=>k (cc j) cs)
  (λ_ _ s t b cs k=>s b cs λl cs=>t b cs λr cs=>k (l+r) cs)
  (λ_ _ s t b cs k=>s b cs λl cs=>t b cs λr cs=>bif b then k (l-r) cs else k (l-r) ((l-r)::cs)&&k (cc 0) ((r-l)::cs))
  (λj _ t b cs k=>t b cs λl cs=>k ((j:Int)*l) cs)
  (λ_ _ s t b cs k=>s b cs λl cs=>t b cs λr cs=>k l ((l-r)::cs)&&k r ((r-l)::cs))
  (λ_ _ s t b cs k=>s b cs λl cs=>t b cs λr cs=>k r ((l-r)::cs)&&k l ((r-l)::cs))
  (λ_ t _ cs k=>t false cs k)
  (λ_ t b cs k=>b&&t b cs λl cs=>k (-l) cs)
  (λ_ t _ cs k=>t true cs λl cs=>k l ((l-cc 0)::cs)&&k (cc 0) ((cc 0-l)::cs)) t
section
variable{z:List Int}{cs:List L}{l r:L}{n:Nat}
def Sat(z:List Int)(cs:List L):Prop:=∀l∈cs,0<=l.eval z
noncomputable def Va(b:Bool)(p:Nat×Int):Int:=bif b then p.2 else p.1
def Sat.sub(h:Sat z cs)(g:r.eval z<=l.eval z):Sat z ((l-r)::cs):=
 fM.mpr ⟨(LinearCombo.sub_eval l r z).symm▸Int.sub_nonneg_of_le g,h⟩
def zb9(k:Int):(cc k).eval z=k:=fC6 k
def Sat.lt(h:Sat z cs)(g:r.eval z<l.eval z):Sat z ((l-(r+cc 1))::cs):=
 h.sub (fAY (Int.le_of_eq ((LinearCombo.add_eval r (cc 1) z).trans (congrArg (r.eval z + ·) (zb9 1)))) g)
def an{a b:Bool}(h:(a&&b)=true):a=true/\b=true:=gA.mp h
def Ok(n:Nat)(z:List Int)(t:T):Prop:=
 ∀(b:Bool) (cs:List L) (k:K),Sat z cs->lf n t b cs k=true->(∀l cs,Sat z cs->l.eval z=Va b (tv z t)->k l cs=true->False)->False
def Bo(z:List Int)(b:Bool)(s t:T)(l r:L)(cs:List L)(k:Bool):Prop:=
 Sat z cs->l.eval z=Va b (tv z s)->r.eval z=Va b (tv z t)->k=true->False
def two{s t:T}(hs:Ok n z s)(ht:Ok n z t){b:Bool}{k:L->L->List L->Bool}(h:Sat z cs)(e:lf n s b cs (λl cs=>lf n t b cs λr cs=>k l r cs)=true)
  (f:∀l r cs,Bo z b s t l r cs (k l r cs)):False:=
 hs b cs _ h e λl cs h1 e1 e=>ht b cs _ h1 e λr cs h2 e2 e=>f l r cs h2 e1 e2 e
def V_n(b:Bool)(k:Nat):Va b (k,(k:Int))=k:=by cases b<;>exact rfl
def zua(b:Bool)(p q:Nat×Int):Va b (p.1+q.1,p.2+q.2)=Va b p+Va b q:=by cases b<;>exact rfl
def zud(b:Bool)(k:Nat)(q:Nat×Int):Va b (k*q.1,(k:Int)*q.2)=k*Va b q:=by cases b<;>exact rfl
def zr3(b:Bool)(p q:Nat×Int):Va b (max p.1 q.1,max p.2 q.2)=max (Va b p) (Va b q):=by
 cases b with
 | true=>exact rfl
 | false=>exact(Nat.le_total q.1 p.1).elim (λh=>(congrArg Int.ofNat (Nat.max_eq_left h)).trans (fDA (fBN.mpr h)).symm) λh=>(congrArg Int.ofNat (Nat.max_eq_right h)).trans (fC3 (fBN.mpr h)).symm
def zr4(b:Bool)(p q:Nat×Int):Va b (min p.1 q.1,min p.2 q.2)=min (Va b p) (Va b q):=by
 cases b with
 | true=>exact rfl
 | false=>exact(Nat.le_total p.1 q.1).elim (λh=>(congrArg Int.ofNat (Nat.min_eq_left h)).trans (fCG (fBN.mpr h)).symm) λh=>(congrArg Int.ofNat (Nat.min_eq_right h)).trans (fB8 (fBN.mpr h)).symm
def zue(p q:Nat×Int)(h:Va false q<=Va false p):Va false (p.1-q.1,p.2-q.2)=Va false p-Va false q:=Int.ofNat_sub (fBN.mp h)
def zsv(p q:Nat×Int)(h:Va false p<=Va false q):Va false (p.1-q.1,p.2-q.2)=0:=congrArg Int.ofNat (Nat.sub_eq_zero_of_le (fBN.mp h))
def spl{A B:Bool}{a b:Int}(ea:l.eval z=a)(eb:r.eval z=b)(h:Sat z cs)(e:(A&&B)=true)
  (f:b<=a->Sat z ((l-r)::cs)->A=true->False)(g:a<=b->Sat z ((r-l)::cs)->B=true->False):False:=
 (fC7 b a).elim (λq=>f q (h.sub (ea▸eb▸q)) (an e).1) λq=>g q (h.sub (ea▸eb▸q)) (an e).2
def zdl(hn:∀i,i.blt n=true->0<=IntList.get z i)(t:T):Ok n z t:=by
 induction t with
 | v i=>
  intro b cs k h e f;cases b with
  | true=>exact f _ _ h (LinearCombo.coordinate_eval i z) e
  | false=>exact f _ _ h ((LinearCombo.coordinate_eval i z).trans (fAV (hn i (an e).1)).symm) (an e).2
 | n j=>exact λb cs k h e f=>f _ _ h ((zb9 _).trans (V_n b j).symm) e
 | a s t hs ht=>exact λb cs k h e f=>two hs ht h e λl r cs h e1 e2 e=>f _ _ h ((LinearCombo.add_eval l r z).trans ((congr (congrArg _ e1) e2).trans (zua b _ _).symm)) e
 | s s t hs ht=>
  intro b cs k h e f;refine two hs ht h e λl r cs h e1 e2 e=>?_;have e3:=(LinearCombo.sub_eval l r z).trans (congr (congrArg _ e1) e2);cases b with
  | true=>exact f _ _ h e3 e
  | false=>exact spl e1 e2 h e (λq h e=>f _ _ h (e3.trans (zue _ _ q).symm) e) λq h e=>f _ _ h ((zb9 0).trans (zsv _ _ q).symm) e
 | m j t ht=>exact λb cs k h e f=>ht b cs _ h e λl cs h e1 e=>f _ _ h ((LinearCombo.smul_eval l j z).trans ((congrArg _ e1).trans (zud b j _).symm)) e
 | x s t hs ht=>exact λb cs k h e f=>two hs ht h e λl r cs h e1 e2 e=>spl e1 e2 h e (λq h e=>f _ _ h (e1.trans ((zr3 b _ _).trans (fDA q)).symm) e) λq h e=>f _ _ h (e2.trans ((zr3 b _ _).trans (fC3 q)).symm) e
 | y s t hs ht=>exact λb cs k h e f=>two hs ht h e λl r cs h e1 e2 e=>spl e1 e2 h e (λq h e=>f _ _ h (e2.trans ((zr4 b _ _).trans (fB8 q)).symm) e) λq h e=>f _ _ h (e1.trans ((zr4 b _ _).trans (fCG q)).symm) e
 | c t ht=>exact λb cs k h e f=>ht false cs k h e λl cs h e1 e=>f _ _ h (e1.trans (V_n b _).symm) e
 | g t ht=>
  intro b cs k h e f;cases b with
  | true=>exact ht true cs _ h e λl cs h e1 e=>f _ _ h ((LinearCombo.neg_eval l z).trans (congrArg _ e1)) e
  | false=>exact Bool.noConfusion e
 | o t ht=>exact λb cs k h e f=>ht true cs _ h e λl cs h e1 e=>spl e1 (zb9 0) h e (λq h e=>f _ _ h (e1.trans ((V_n b _).trans (fAV q)).symm) e) λq h e=>f _ _ h ((zb9 0).trans ((V_n b _).trans (congrArg Int.ofNat (Int.toNat_of_nonpos q))).symm) e
abbrev J:=List L->(List L->Bool)->Bool
noncomputable def jn(w:Bool)(A B:J):J:=λcs k=>bif w then A cs (λcs=>B cs k) else A cs k&&B cs k
noncomputable def ps(n:Nat)(p:P):Bool->J:=
 P.rec (motive:=λ_=>Bool->J)
  (λb s t w cs k=>lf n s b cs λl cs=>lf n t b cs λr cs=>k ((bif w then r-l else l-(r+cc 1))::cs))
  (λb s t w cs k=>lf n s b cs λl cs=>lf n t b cs λr cs=>bif w then k ((r-l)::(l-r)::cs) else k ((r-(l+cc 1))::cs)&&k ((l-(r+cc 1))::cs))
  (λ_ _ p q w=>jn w (p w) (q w)) (λ_ _ p q w=>jn (!w) (p w) (q w)) (λ_ _ p q w=>jn (!w) (p (!w)) (q w)) (λw cs k=>w||k cs) p
def OkJ(z:List Int)(A:J)(a:Prop):Prop:=∀(cs:List L) (k:List L->Bool),Sat z cs->a->A cs k=true->(∀cs,Sat z cs->k cs=true->False)->False
def jn1{A B:J}{a b:Prop}(ha:OkJ z A a)(hb:OkJ z B b):OkJ z (jn true A B) (a/\b):=
 λcs k h g e f=>ha cs _ h g.1 e λcs h e=>hb cs k h g.2 e f
def jn0{A B:J}{a b:Prop}(ha:OkJ z A a)(hb:OkJ z B b):OkJ z (jn false A B) (a\/b):=
 λcs k h g e f=>g.elim (λg=>ha cs k h g (an e).1 f) λg=>hb cs k h g (an e).2 f
def OkJ.of{A:J}{a b:Prop}(h:OkJ z A a)(i:b->a):OkJ z A b:=λcs k s g=>h cs k s (i g)
def zuc(b:Bool)(s t:T):dn z (.l b s t)↔Va b (tv z s)<=Va b (tv z t):=by
 cases b with
 | false=>exact fBN.symm
 | true=>exact Iff.rfl
def zub(b:Bool)(s t:T):dn z (.e b s t)↔Va b (tv z s)=Va b (tv z t):=by
 cases b with
 | false=>exact Int.ofNat_inj.symm
 | true=>exact Iff.rfl
def zuO(hn:∀i,i.blt n=true->0<=IntList.get z i)(p:P):OkJ z (ps n p true) (dn z p)/\OkJ z (ps n p false) (¬dn z p):=by
 induction p with
 | l b s t=>exact⟨λcs k h g e f=>two (zdl hn s) (zdl hn t) h e λl r cs h e1 e2 e=>f _ (h.sub (e1▸e2▸(zuc b s t).mp g)) e,
   λcs k h g e f=>two (zdl hn s) (zdl hn t) h e λl r cs h e1 e2 e=>f _ (h.lt (e1▸e2▸fB9.mp (mt (zuc b s t).mpr g))) e⟩
 | e b s t=>exact⟨λcs k h g e f=>two (zdl hn s) (zdl hn t) h e λl r cs h e1 e2 e=>
    have g:=e1.trans (((zub b s t).mp g).trans e2.symm)
    f _ ((h.sub (Int.le_of_eq g.symm)).sub (Int.le_of_eq g)) e,
   λcs k h g e f=>two (zdl hn s) (zdl hn t) h e λl r cs h e1 e2 e=>(Int.lt_or_gt_of_ne (mt (zub b s t).mpr g)).elim (λg=>f _ (h.lt (e1▸e2▸g)) (an e).1) λg=>f _ (h.lt (e1▸e2▸g)) (an e).2⟩
 | a p q hp hq=>exact⟨jn1 hp.1 hq.1,(jn0 hp.2 hq.2).of Classical.not_and_iff_not_or_not.mp⟩
 | o p q hp hq=>exact⟨jn0 hp.1 hq.1,(jn1 hp.2 hq.2).of not_or.mp⟩
 | i p q hp hq=>exact⟨(jn0 hp.2 hq.1).of λg=>(Classical.em _).elim (λa=>.inr (g a)) .inl,(jn1 hp.1 hq.2).of Classical.not_imp.mp⟩
 | f=>exact⟨λ_ _ _ g _ _=>g,λcs k h _ e f=>f cs h e⟩
noncomputable def cm(a b:Nat)(l r:L):List L:=bif (a*b).beq 0 then [] else [(a:Int)*l+(b:Int)*r]
noncomputable def step(i:Nat)(cs:List L):List L:=
 cs.filter (λl=>(IntList.get l.coeffs i).natAbs.beq 0)++cs.flatMap λl=>cs.flatMap λr=>cm (- IntList.get r.coeffs i).toNat (IntList.get l.coeffs i).toNat l r
def zrr(i:Nat)(h:Sat z cs):Sat z (step i cs):=by
 refine List.forall_mem_append.mpr ⟨λl hl=>h l (fZ.mp hl).1,λx hx=>?_⟩;obtain⟨l,hl,hx⟩:=gL.mp hx;obtain⟨r,hr,hx⟩:=gL.mp hx;have go:∀(a b:Nat),x∈cm a b l r->0<=x.eval z:=by
  intro a b hx;unfold cm at hx;cases hc:(a*b).beq 0 with
  | true=>rw[hc] at hx;exact absurd hx gD
  | false=>
   rw[hc] at hx;rw[fG.mp hx,LinearCombo.add_eval,LinearCombo.smul_eval,LinearCombo.smul_eval];exact Int.add_nonneg (Int.mul_nonneg (fAZ a) (h l hl)) (Int.mul_nonneg (fAZ b) (h r hr))
 exact go _ _ hx
noncomputable def bad(l:L):Bool:=decide (l.const<0)&&l.coeffs.all λx=>decide (x=0)
noncomputable def ref(n:Nat):List L->Bool:=Nat.rec (motive:=λ_=>List L->Bool) (λcs=>cs.any bad) (λi f cs=>cs.any bad||f (step i cs)) n
def znY(h:Sat z cs)(e:cs.any bad=true):False:=by
 obtain⟨l,hl,e⟩:=List.any_eq_true.mp e;have e1:l.eval z=l.const:=(congrArg (l.const + ·) (IntList.dot_eq_zero_of_left_eq_zero λx hx=>H1 (fAM.mp (an e).2 x hx))).trans (fC6 _);exact absurd (e1▸h l hl) (fB9.mpr (H1 (an e).1))
def ztp(n:Nat):∀cs,Sat z cs->ref n cs=true->False:=by
 induction n with
 | zero=>exact λcs h e=>znY h e
 | succ n ih=>exact λcs h e=>(fBQ.mp e).elim (znY h) (ih _ (zrr n h))
def zou(c:List Nat):∀i,i.blt c.length=true->0<=IntList.get (c.map Int.ofNat++z) i:=by
 induction c with
 | nil=>exact λi h=>Bool.noConfusion h
 | cons a c ih=>exact λi h=>Nat.casesOn (motive:=λi=>i.blt (c.length+1)=true->0<=IntList.get (Int.ofNat a::(c.map Int.ofNat++z)) i) i (λ_=>fAZ a) (λi h=>ih i h) h
noncomputable def ck(p:P)(c:List Nat)(z:List Int):Bool:=ps c.length p false ((List.range c.length).map .coordinate) (ref (c.length+z.length))
def lin(p:P)(c:List Nat)(z:List Int)(h:ck p c z=true:=by kernel_rfl):dn (c.map Int.ofNat++z) p:=by
 refine Classical.byContradiction λg=>(zuO (zou c) p).2 _ _ (λl hl=>?_) g h (ztp _);obtain⟨i,hi,rfl⟩:=fO.mp hl;exact LinearCombo.coordinate_eval i _▸zou c i (Nat.ble_eq.mpr (pR.mp hi))
noncomputable def d1(k:T->T)(p:T×Nat):T×Nat:=(k p.1,p.2)
noncomputable def d2(k:T->T->T)(r:Nat->T×Nat)(p:T×Nat):T×Nat:=d1 (k p.1) (r p.2)
noncomputable def dT(f:Nat):Nat->T×Nat:=Nat.rec (motive:=λ_=>Nat->T×Nat) (λc=>(.v 0,c)) (λ_ r c=>
 bif (c%32).blt 8 then (.v (c%32),c/32) else bif (c%32).blt 18 then (.n (c%32-8),c/32) else bif (c%32).beq 20 then d2 .a r (r (c/32)) else bif (c%32).beq 21 then d2 .s r (r (c/32)) else bif (c%32).beq 18 then (.n (c/32%1048576),c/33554432)
 else bif (c%32).beq 25 then d1 .c (r (c/32)) else bif (c%32).beq 22 then d1 (.m (c/32%1048576)) (r (c/33554432)) else bif (c%32).beq 23 then d2 .x r (r (c/32)) else bif (c%32).beq 24 then d2 .y r (r (c/32)) else bif (c%32).beq 26 then d1 .g (r (c/32)) else bif (c%32).beq 27 then d1 .o (r (c/32)) else (.n (c/32%1152921504606846976),c/36893488147419103232)) f
noncomputable def e1(k:P->P)(p:P×Nat):P×Nat:=(k p.1,p.2)
noncomputable def e2(k:P->P->P)(r:Nat->P×Nat)(p:P×Nat):P×Nat:=e1 (k p.1) (r p.2)
noncomputable def f1(k:T->P)(p:T×Nat):P×Nat:=(k p.1,p.2)
noncomputable def f2(k:T->T->P)(p:T×Nat):P×Nat:=f1 (k p.1) (dT 20 p.2)
noncomputable def dP(f:Nat):Nat->P×Nat:=Nat.rec (motive:=λ_=>Nat->P×Nat) (λc=>(.f,c)) (λ_ r c=>
 bif (c%32).blt 2 then f2 (.l ((c%32).beq 1)) (dT 20 (c/32)) else bif (c%32).blt 4 then f2 (.e ((c%32).beq 3)) (dT 20 (c/32)) else bif (c%32).beq 6 then e2 .i r (r (c/32)) else bif (c%32).beq 4 then e2 .a r (r (c/32)) else bif (c%32).beq 5 then e2 .o r (r (c/32)) else (.f,c/32)) f
def za(n:Nat)(c:List Nat)(z:List Int)(h:ck (dP 20 n).1 c z=true:=by kernel_rfl):dn (c.map Int.ofNat++z) (dP 20 n).1:=lin _ c z h
end
end La
end
section
open La
noncomputable abbrev La.v0:La.T:=.v 0
noncomputable abbrev La.v1:La.T:=.v 1
noncomputable abbrev La.v2:La.T:=.v 2
noncomputable abbrev La.v3:La.T:=.v 3
noncomputable abbrev La.v4:La.T:=.v 4
noncomputable abbrev La.n0:La.T:=.n 0
noncomputable abbrev La.n1:La.T:=.n 1
noncomputable abbrev La.n2:La.T:=.n 2
noncomputable abbrev La.n3:La.T:=.n 3
noncomputable abbrev La.n4:La.T:=.n 4
noncomputable abbrev La.n5:La.T:=.n 5
noncomputable abbrev La.n6:La.T:=.n 6
noncomputable abbrev La.n7:La.T:=.n 7
noncomputable abbrev La.P.p:=P.l false
noncomputable abbrev La.P.z:=P.l true
noncomputable abbrev La.P.q:=P.e false
noncomputable abbrev La.P.w:=P.e true
variable{a b c d e f g i j k m o:Nat}{u v w x y z s t r:Int}
def y0 : -(1000000000000000:Int)<(1:Int):=za 0x1290038d7ea4c680009ea81 [] []
def y1:0+1<=1:=za 0x94a280 [] []
def y2:(1:Int)<1000000000000000:=za 0x71afd498d000134a681 [] []
def y3:(1:Int)>0:=za 0x94a281 [] []
def y4:0<1:=za 0x94a280 [] []
def y5:0<=100:=za 0x324900 [] []
def y6:0<=64:=za 0x204900 [] []
def y7:0<=u/\u<90->u.toNat+1<=90:=za 0x5a9241ba000016a490502040486 [] [u]
def y11 : -1000000000<=u->0-1000000000<=u:=za 0x7735940134542000000003b9aca009e826 [] [u]
def y12 : -1000000000000<u->-1000000000000000<u:=za 0x4801c6bf526340004f54081200001d1a94a20013d5026 [] [u]
def y14:0<u->¬u=0:=za 0x1d001980945026 [] [u]
def y33:u<1000000->u.toNat<1000000:=za 0xf42409241ba03d09024905026 [] [u]
def y34:u<1000000000000->u<1000000000000000:=za 0x1c6bf526340004d20a0400003a3529440026905026 [] [u]
def y41:u<u->False:=za 0x1c0905026 [] [u]
def y42:¬0<=u->u<0:=za 0x2120a04e0404c6 [] [u]
def y43:u+(1-1)=u:=za 0x129a8283 [] [u]
def y47 : -1000000000000<v->u<1000000000000->(((u-v).toNat:Nat):Int)<1000000000000000:=za 0xe35fa931a000269082bbcd0200001d1a94a2001348281305200001d1a94a20013d5026 [] [u,v]
def y54:u.toNat=v.toNat->0<=u->0<=v->u=v:=za 0x100c28098080983b06c46 [] [u,v]
def y55:u<v->u<=v:=za 0x10042905026 [] [u,v]
def y57:v<u->u-v=(((u-v).toNat:Nat):Int):=za 0x415de420a8c090d026 [] [u,v]
def y58:v<u->¬u<=v:=za 0x1c20098090d026 [] [u,v]
def y59:v>u->u<=v:=za 0x10042905026 [] [u,v]
def y60:¬u>v->u<=v:=za 0x40138121a04c6 [] [u,v]
def y61:¬v<u->0=(((u-v).toNat:Nat):Int):=za 0x415de50338121a04c6 [] [u,v]
def y62:¬v<u->u<=v:=za 0x40138121a04c6 [] [u,v]
def y65 : -1000000000000000<(((u-v).toNat:Nat):Int):=za 0x20aef290038d7ea4c680009ea81 [] [u,v]
def y68:u<=w->v=w->u<=v:=za 0x4011046610026 [] [u,v,w]
def y69:v>w->u<w->u<v:=za 0x148281124140982915026 [] [u,v,w]
def y70:v>w->u=w->u<v:=za 0x520a04401982915026 [] [u,v,w]
def y71:x-y<=w->u<=x->y<=v->u-v<=w:=za 0x820a842409860098441d426 [] [u,v,w,x,y]
def y96:u.toNat<a->u<(a:Int):=za 0xca43408121dd006 [a] [u]
def y97:u+1+(a:Int)=u+((a+1:Nat):Int):=za 0x905321a03290d283 [a] [u]
def y98:u+((a+1:Nat):Int)=u+(a:Int)+1:=za 0x906434a2414c8683 [a] [u]
def y99:a<=80/\b<=80->0<=u/\u<(a:Int)->0<=u/\u<90:=za 0x5a9245408901203291502240486000509040000a1200086 [a,b] [u]
def zys:a<=80/\b<=80->0<=u/\u<(b:Int)->0<=u/\u<90:=za 0x5a9245408901207291502240486000509040000a1200086 [a,b] [u]
def zyt:u.toNat<b->b=a->u.toNat<a:=za 0x48b740002230522dd006 [a,b] [u]
def zyu:a+1<=1000000->a<=16777216:=za 0x20000013003d09024905006 [a] []
def zyv:1<=a->¬0+1=a->0+1<a:=za 0x1294528038128a08c602406 [a] []
def zyw:1<=a->¬1=a->1+1<=a:=za 0x129a00e0488c602406 [a] []
def zyx:1<=a->¬1=a->1<a:=za 0x129a00e0488c602406 [a] []
def zyy:1<=a->¬a=1->2<=a:=za 0x500e9008c602406 [a] []
def zyz:1<=a->¬a>1->a=1:=za 0x240238129a00c602406 [a] []
def zyA:1<=a->0+1<=a:=za 0x4a28002406 [a] []
def zrJ:1<=a->a-1<a:=za 0x1290568002406 [a] []
def ztz:1<=a->0<a:=za 0x4a28002406 [a] []
def ztA:1<=a->1<=a:=za 0x12002406 [a] []
def zvM:1<=a->a=a-1+1:=za 0x2520ad00202406 [a] []
def zvN:2<=a->¬a-1=1->2<=a-1:=za 0x9055403a520a88c602806 [a] []
def zyB:2<=a->a-2-1+1<a:=za 0x1294a815ad28002806 [a] []
def zyC:2<=a->a-1-1<a-1:=za 0x24154a520ad68002806 [a] []
def zyD:2<=a->a-2+1<a:=za 0x4a540ad28002806 [a] []
def zyE:2<=a->0<a:=za 0x4a28002806 [a] []
def ztB:2<=a->1<=a:=za 0x12002806 [a] []
def ztC:2<=a->2<=a:=za 0x14002806 [a] []
def zvO:a<100->a<=16777216:=za 0x20000013000001924905006 [a] []
def zvP:a<1000->a+1<=1000:=za 0x1f44920a0000fa24905006 [a] []
def zvQ:a<1000000->a<=16777216:=za 0x20000013003d09024905006 [a] []
def zyF:a<2->a<2:=za 0x2920a014905006 [a] []
def ztD:a<400->a+1<590:=za 0x49d24a414a00006424905006 [a] []
def zyG:a<400->a<600:=za 0x12c4920a00006424905006 [a] []
def zyH:a<500->a+1+1<590:=za 0x127492948294a00007d24905006 [a] []
def zyI:a<500->a+1<600:=za 0x4b124a414a00007d24905006 [a] []
def zyJ:a<520->a+1<540:=za 0x43924a414a00008224905006 [a] []
def zyK:a<520->a+1<560:=za 0x46124a414a00008224905006 [a] []
def zyL:a<520->a+1<580:=za 0x48924a414a00008224905006 [a] []
def zvR:a<540->a+1<550:=za 0x44d24a414a00008724905006 [a] []
def zvS:a<540->a+1<570:=za 0x47524a414a00008724905006 [a] []
def zvT:a<540->a+1<590:=za 0x49d24a414a00008724905006 [a] []
def zyM:a<550->a+1<560:=za 0x46124a414a000089a4905006 [a] []
def zyN:a<550->a+1<570:=za 0x47524a414a000089a4905006 [a] []
def zvU:a<560->a+1<570:=za 0x47524a414a00008c24905006 [a] []
def zyO:a<560->a+1<580:=za 0x48924a414a00008c24905006 [a] []
def zyP:a<560->a+1<590:=za 0x49d24a414a00008c24905006 [a] []
def zvV:a<570->a+1<580:=za 0x48924a414a00008ea4905006 [a] []
def zrK:a<570->a+1<590:=za 0x49d24a414a00008ea4905006 [a] []
def zje:a<580->a+1<590:=za 0x49d24a414a00009124905006 [a] []
def zyQ:a<590->a+1<=600:=za 0x12c4920a000093a4905006 [a] []
def zyR:a<60->a+1<=64:=za 0x204920a00000f24905006 [a] []
def ztE:a<80->a+1<=1000000:=za 0x7a1204920a00001424905006 [a] []
def zyS:a>0->a-1<a:=za 0x4a415a000945006 [a] []
def zyT:a>1->a-2+1<a:=za 0x129502b4a00094d006 [a] []
def zyU:a>1->a-2<a:=za 0x4a815a00094d006 [a] []
def zyV:a<=100->a<=1000:=za 0x1f448000006490006 [a] []
def zyW:a<=100->a<=1000000:=za 0x7a12048000006490006 [a] []
def zcR:a<=1000->a<=1000000:=za 0x7a1204800003e890006 [a] []
def zyX:a<=10000->a<=1000000:=za 0x7a12048000271090006 [a] []
def ztF:a<=1000000->Nat.succ a<=1000000000000:=za 0x1d1a94a2001348280f424090006 [a] []
def zyY:a<=1000000->a<=16777216+1:=za 0x90000000010000009d000f424090006 [a] []
def zht:a<=1000000->a<=16777216:=za 0x8000004c00f424090006 [a] []
def zyZ:a<=200->a<=16777216+1:=za 0x90000000010000009d000000c890006 [a] []
def zy0:a<=256->a+1<=1000000:=za 0x1e84812482800010090006 [a] []
def zvW:a<=256->a<1000000:=za 0x1e84812482800010090006 [a] []
def zy1:a<=3->0+a<=3:=za 0xb0228058006 [a] []
def zy2:a<=3->a+1<=1000000:=za 0x1e848124828058006 [a] []
def znI:a<=3->a<=100:=za 0x32480058006 [a] []
def zjf:a<=3->a<=1000:=za 0x1f4480058006 [a] []
def zkZ:a<=3->a<=1000000:=za 0x7a120480058006 [a] []
def zy3:a<=300->a<1000000:=za 0x1e84812482800012c90006 [a] []
def znJ:a<=4->a<=1000:=za 0x1f4480060006 [a] []
def zvX:a<=8->0+a<=8:=za 0x100228080006 [a] []
def zvY:a<=8->a<=1000:=za 0x1f4480080006 [a] []
def zjg:a<=8->a<=1000000:=za 0x7a120480080006 [a] []
def zrL:a<=80->a<=1000000:=za 0x7a12048000005090006 [a] []
def ztG:¬a-1=0->1<=a-1:=za 0x9055203a120a88c6 [a] []
def zvZ:¬a<2->2<=a:=za 0x1403a920a00c6 [a] []
def zv0:¬a=0->a-1<a:=za 0x4a415a00e8008c6 [a] []
def zy4:¬a=0->0<a:=za 0x128a00e8008c6 [a] []
def zy5:¬a=0->1<=a:=za 0x480e8008c6 [a] []
def zy6:¬a=1->¬a=0->2<=a:=za 0x1403a002318e9008c6 [a] []
def zv1:¬a>0->a=0:=za 0x200238128a00c6 [a] []
def zy7:¬a<=1->2<=a:=za 0x500e9000c6 [a] []
def ztH:((a+1:Nat):Int)-1=(a:Int):=za 0xca520a66a3 [a] []
def zy8:((0+a:Nat):Int)=(a:Int):=za 0x32045323 [a] []
def zy9:((a+1:Nat):Int)=(a:Int)+1:=za 0x90668905323 [a] []
def zza:((a+1:Nat):Int)>0:=za 0x482994a281 [a] []
def zzb:(a:Int)-(a:Int)<=0:=za 0x2019066a1 [a] []
def zzc:a+1-a=1:=za 0x2409052a2 [a] []
def zzd : -((a+1:Nat):Int)<=-1:=za 0x4e920a6741 [a] []
def zv2:0+1<=a+1:=za 0x24144a280 [a] []
def zze:3*(a+1)=3+3*a:=za 0x3b2e890500000ec2 [a] []
def zzf:((a:Int)-0).toNat=a:=za 0x100cd762 [a] []
def zzg:(-1+((a+1:Nat):Int)).toNat=a:=za 0x905329d5362 [a] []
def zzh:min 0 a<=0:=za 0x802300 [a] []
def zzi:a+1<=a+9:=za 0x441448280 [a] []
def zzj:a-0<=a-0:=za 0x2015402a0 [a] []
def zv3:0<=a:=za 0x100 [a] []
def zzk:1<=a+1:=za 0x905120 [a] []
def zv4:a<2*a+1:=za 0x4800000ad448280 [a] []
def zqc:a<a+1:=za 0x241448280 [a] []
def zzl:a<=a+3+1:=za 0x2560a5000 [a] []
def zzm:a<=a+1:=za 0x905000 [a] []
def zv5:a<=a:=za 0x0 [a] []
def zzn:¬(a:Int)<0:=za 0x3a120cd026 [a] []
def zzo:¬a+1=a:=za 0x1c0905046 [a] []
def zzp:(a:Int)<(b:Int)->a<b:=za 0x1482800e520cd026 [a,b] []
def zzq:a<=80/\b<=80->a<1000:=za 0x7d1248280000509040000a1200086 [a,b] []
def zv6:b-1-a>0->a+(b-1-a)=b-1:=za 0x90d4090d6a0a08090d6a945006 [a,b] []
def zzr:b<=80/\a<=80->a<1000:=za 0x7d1248280000509000000a1208086 [a,b] []
def zzs:max (a:Int) (b:Int)<=3->a<=3:=za 0x2c0058720cdc26 [a,b] []
def zzt:max (a:Int) (b:Int)<=3->¬max (a:Int) (b:Int)>3:=za 0x1c39066e95d02658720cdc26 [a,b] []
def zzu:max (b:Int) (a:Int)<=3->a<=3:=za 0x2c0058321cdc26 [a,b] []
def zzv:min (a:Int) (b:Int)=1->a+b=0->False:=za 0x1d010504648720ce066 [a,b] []
def zzw:a+(b+1)<100->a<100:=za 0x324920a00001924948680a5006 [a,b] []
def zzx:a+(b+1)<=100000->a+1+b<=100000:=za 0xc350482905280186a09243405006 [a,b] []
def zzy:a+(b+1)<=100000->a+1<=1000000:=za 0x1e8481248280186a09243405006 [a,b] []
def zzz:a+(b+1)<=100000->a+b<=100000:=za 0x30d41208280186a09243405006 [a,b] []
def zv7:a+(b+1)<=1000000->a+1+b<=1000000:=za 0x7a120482905280f42409243405006 [a,b] []
def zv8:a+(b+1)<=1000000->a+b<=1000000:=za 0x1e8481208280f42409243405006 [a,b] []
def zv9:a+(b+1)<=1000000->a<1000000:=za 0x1e8481248280f42409243405006 [a,b] []
def zzA:a+(b+1)<=3->a+1+b<=3:=za 0x2c29052805a43405006 [a,b] []
def zzB:a+(b+1)<=3->a<=3:=za 0x2c005a43405006 [a,b] []
def zwa:a+(b+1)<=8->a+1<=1000000:=za 0x1e84812482808243405006 [a,b] []
def zwb:a+(b+1)<=8->a+b<=8:=za 0x10082808243405006 [a,b] []
def zzC:a+1<b+1->a<b:=za 0x520a0121a2520a5006 [a,b] []
def zwc:a+1<b->¬a+1+1=b->a+1+1<b:=za 0x52948294a00e14a414a08c60a520a5006 [a,b] []
def zzD:a+1<b->a+(b-a)<=b:=za 0x401a82800a520a5006 [a,b] []
def zzE:a+1<b->a+1<b:=za 0x529052800a520a5006 [a,b] []
def zhu:a+1<b->a<b:=za 0x1482800a520a5006 [a,b] []
def zzF:a+1<b->a<=b:=za 0x4000a520a5006 [a,b] []
def zrM:a+1<=b+1->a<=b:=za 0x4004868905006 [a,b] []
def zwd:a+1<=b->a+1+1<=2*b+1:=za 0x4840000ad44a414a002905006 [a,b] []
def zzG:a+1<=b->a+1+1<=b+1:=za 0x24344a414a002905006 [a,b] []
def zrN:a+1<=b->a<=b:=za 0x10002905006 [a,b] []
def zzH:a+100<b->a+(10+10)<b:=za 0x1480005480002a54052800a40019240a5006 [a,b] []
def ztI:a+3000<b->a+1+100<b:=za 0x14800324920a52800a402ee240a5006 [a,b] []
def zzI:a+3000<b->a+2+2000<b:=za 0x14803e84940a52800a402ee240a5006 [a,b] []
def zzJ:a+3000<b->a+100<b:=za 0x52000c92052800a402ee240a5006 [a,b] []
def zwe:a+b=0->a=0:=za 0x80090105046 [a,b] []
def zzK:a+b<=1000000->a+b<=16777216+1:=za 0x90000000010000009d020a03d09024105006 [a,b] []
def zzL:a+b<=256->a<=256:=za 0x2012000004024105006 [a,b] []
def zzM:a-1<b->a<=b:=za 0x4000a520ad006 [a,b] []
def zzN:b+(a+1)<=8->a+1<=1000:=za 0x7d1248280824140d006 [a,b] []
def zwf:b+1<a->0<a-b:=za 0x4154a28002521a5006 [a,b] []
def zwg:b+1<=a->1<=a:=za 0x480090d006 [a,b] []
def zwh:b-a>0->a+(b-a)=b:=za 0x401a8282006a945006 [a,b] []
def zwi:0<b->a<=b-1->a<b:=za 0x148280486a00182945006 [a,b] []
def ztJ:1<=a->a<=b->a-1<b:=za 0x529056800800602406 [a,b] []
def zzO:1<=a->¬a-b>0->a-1<b:=za 0x14a415a00e105528a00c602406 [a,b] []
def ztK:1<=a->1<=a+b:=za 0x10512002406 [a,b] []
def zqd:1<=b->b<=a->1<=a:=za 0x120004060a406 [a,b] []
def ztL:1<=b->a+b-1<a+b:=za 0x4144a420a56800a406 [a,b] []
def ztM:2<=a->a<=b->a-1<b:=za 0x529056800800602806 [a,b] []
def zzP:2<=a->¬a-1-b>0->a-1-1<b:=za 0x14a520ad68038520ad528a00c602806 [a,b] []
def zzQ:2<=b->a=b->0<a:=za 0x4a280080460a806 [a,b] []
def zwj:a<b+1->a<b+1:=za 0x2434482804868905006 [a,b] []
def ztN:a<b+1->a<=b:=za 0x4004868905006 [a,b] []
def zwk:a<b->b<=1000->(a:Int)<1000000:=za 0xf424092419a0400fa2410182905006 [a,b] []
def zwl:a<b->¬a+1=b->a+1<b:=za 0x14a414a00e1482823182905006 [a,b] []
def zwm:a<b->0<=(a:Int)/\(a:Int)<(b:Int):=za 0x3948334083280902905006 [a,b] []
def zzR:a<b->a+1+(b-(a+1))<=b:=za 0x148281aa414a002905006 [a,b] []
def zzS:a<b->min (a+1) b=a+1:=za 0x24140a414c082905006 [a,b] []
def zwn:a<b->min a b=a:=za 0x20c082905006 [a,b] []
def zzT:a<b->a+0<b:=za 0x14a014a002905006 [a,b] []
def zzU:a<b->a+1<b+1:=za 0x24344a414a002905006 [a,b] []
def zqe:a<b->a+1<=b:=za 0x520a002905006 [a,b] []
def zwo:a<b->a<b+1:=za 0x90d120a002905006 [a,b] []
def ztO:a<b->a<b:=za 0x520a002905006 [a,b] []
def zrO:a<b->a<=b-1:=za 0x24350002905006 [a,b] []
def zhv:a<b->a<=b:=za 0x10002905006 [a,b] []
def zzV:a=0+b->a=b:=za 0x100828a0046 [a,b] []
def zzW:a=b+1->b=a->False:=za 0x1c0111921a0046 [a,b] []
def zwp:a=b->b<a->False:=za 0x1c090d00608046 [a,b] []
def zrP:a=b->b<=3->a<=3:=za 0x2c005840608046 [a,b] []
def zzX:a=b->a<=0+b:=za 0x14500008046 [a,b] []
def zzY:a=b->a<=b+1:=za 0x90d00008046 [a,b] []
def zwq:a=b->a<=b:=za 0x40008046 [a,b] []
def zzZ:a<=20+8*b->a+1+1<=20+8*(b+1):=za 0x243400008b0000a4a894829400400022c000292a0006 [a,b] []
def zz0:a<=20+8*b->a+3<=20+8*(b+1):=za 0x90d000022c000292a2c1400400022c000292a0006 [a,b] []
def zwr:a<=301+b->a+1<=301+(b+1):=za 0x24340012d95120a0020025b2a0006 [a,b] []
def zz1:a<=301+b->a<=301+(b+1):=za 0x90d0004b65400020025b2a0006 [a,b] []
def zz2:a<=max 1 (b-max 0 b)->a<=1:=za 0x900028b86a9b8006 [a,b] []
def zz3:a<=b+1->a-1+1<=b+1:=za 0x24344a415a0121a0006 [a,b] []
def zrQ:a<=1000->b<=1000->a+b<=1000000:=za 0x1e8481208280003e890406003e890006 [a,b] []
def zz4:a<=1000000->a-b<=1000000:=za 0x1e84812082a0f424090006 [a,b] []
def zws:a<=3->b<=3->a+b<=1000000:=za 0x1e84812082805840658006 [a,b] []
def zz5:a<=3->b<=3->a+b<=6:=za 0xe082805840658006 [a,b] []
def zz6:a<=b->min (max 0 b) b<=a->a=b:=za 0x40200428be00608006 [a,b] []
def ztP:a<=b->a>=b->a=b:=za 0x4020040608006 [a,b] []
def zz7:a<=b->¬a=b->a+1<=b:=za 0x520a00e1008c608006 [a,b] []
def zz8:a<=b->0+(a-1)<=b:=za 0x520aa28008006 [a,b] []
def zz9:a<=b->0+a<=b:=za 0x10228008006 [a,b] []
def zwt:a<=b->max a b=b:=za 0x1082e208006 [a,b] []
def ztQ:a<=b->a+(b-a)=b:=za 0x401a828208006 [a,b] []
def zAa:a<=b->a-1<=b-1:=za 0x2435482a008006 [a,b] []
def zk0:a<=b->a<=b:=za 0x40008006 [a,b] []
def zAb:b<100->a<=b+1->a<=100:=za 0x3248004868001800192490d006 [a,b] []
def zAc:b<1000000->b=a->a<=16777216:=za 0x200000130000111bd0902490d006 [a,b] []
def zAd:b<600->a<=301+b->a<1000:=za 0x7d1248280080096ca8001800962490d006 [a,b] []
def zwu:b<a->¬b+1=a->0<a-(b+1):=za 0x243405528a00e048682318090d006 [a,b] []
def zrR:b<a->a+1-(b+1)<a+1-b:=za 0x1482954a43448295a00090d006 [a,b] []
def zAe:b<a->0<(a:Int)-(b:Int):=za 0x720cd528a04090d006 [a,b] []
def zwv:b<a->0<a:=za 0x128a00090d006 [a,b] []
def zAf:b=a+1->a<b:=za 0x520a0120a0446 [a,b] []
def zAg:b=a+1->a≠b:=za 0x1c2011920a0446 [a,b] []
def zAh:b=a+1->a<=b+1:=za 0x243400120a0446 [a,b] []
def zqf:b=a+1->a<=b:=za 0x100120a0446 [a,b] []
def zww:b=a+1->¬a=b:=za 0x1c2011920a0446 [a,b] []
def zwx:b=a+3->a<=b:=za 0x100160a0446 [a,b] []
def zAi:b=1->a<b->a=0:=za 0x8008290500648446 [a,b] []
def zAj:b=a->a=b:=za 0x40200446 [a,b] []
def ztR:b=a->a<=b:=za 0x40000446 [a,b] []
def zwy:b<=100000->a<=b->1+a<=1000000:=za 0x1e848120268008006186a090406 [a,b] []
def ztS:b<=100000->a<=b->a<=1000000:=za 0x7a120480008006186a090406 [a,b] []
def zAk:b<=1000000->a<=b->a<=1000000:=za 0x7a120480008006f424090406 [a,b] []
def ztT:b<=1000000->b=a->(a:Int)<9223372036854775808:=lin (.i (.p v1 (.n 1000000)) (.i (.q v1 v0) (.z (.a (.c v0) n1) (.n 9223372036854775808)))) [a,b] []
def zAl:b<=1000000->b=a->a<=16777216+1:=za 0x90000000010000009d00000446f424090406 [a,b] []
def zwz:b<=1000000->b=a->a<=1000000:=za 0x7a120480000446f424090406 [a,b] []
def zhw:b<=1000000->b=a->a<=16777216:=za 0x8000004c0000446f424090406 [a,b] []
def zAm:b<=256->a=b->a<=256:=za 0x804800080460010090406 [a,b] []
def zAn:b<=256->a<=b+1->a<=300:=za 0x259200121a00060010090406 [a,b] []
def zAo:b<=a->a=b+(a-b):=za 0x4150d00200406 [a,b] []
def zAp:¬(b:Int)<(a:Int)->a<=b:=za 0x1000e0ca439a04c6 [a,b] []
def zAq:¬a<b->¬b<a->a=b:=za 0x40238121a00c638520a00c6 [a,b] []
def zAr:¬a<b->¬a+1<b+1:=za 0x1d21a2520a500638520a00c6 [a,b] []
def zAs:¬a>=b+1->a<=b:=za 0x40038121a00c6 [a,b] []
def zAt:¬a>=b->a+(b-a)<=b:=za 0x1006a0a00e0080c6 [a,b] []
def zwA:¬b<a->a<=b:=za 0x40038121a00c6 [a,b] []
def zAu:¬b=0->a=b->a-1<b:=za 0x14a415a0020118e8088c6 [a,b] []
def zrS:¬b=0->a=b->1<=a:=za 0x48020118e8088c6 [a,b] []
def zAv:¬b>=a->1<=a-b:=za 0x415480e1000c6 [a,b] []
def zAw:(a:Int)-((b+1:Nat):Int)=(a:Int)-(b:Int)-1:=za 0x2439066b548699066a3 [a,b] []
def zAx:a+(b+1)-1=a+b:=za 0x4144a434052a2 [a,b] []
def zAy:a+1+b=a+b+1:=za 0x2420a502905282 [a,b] []
def ztU:a+1+b=a+(b+1):=za 0x24340502905282 [a,b] []
def zAz:a-0+(b-1)<=a+b-0:=za 0x808295486a805680 [a,b] []
def zAA:a-1+b<=a+b-0:=za 0x2020a542905680 [a,b] []
def zAB:min (max (max a 1) b) b=b:=za 0x108520bdf02 [a,b] []
def zAC:a+(b+1)=a+b+1:=za 0x2420a5121a0282 [a,b] []
def zwB:a<a+(b+1):=za 0x90d01448280 [a,b] []
def zk1:a<=a+b:=za 0x105000 [a,b] []
def zAD:(b:Int)=u->v<u->v=(a:Int)->a<b:=za 0x1482800646330923a04c20e466 [a,b] [u,v]
def zAE:1=c\/a<b->¬1=c->a<=b:=za 0x400389223182905002488a6 [a,b,c] []
def zAF:max 0 b+1<=a->a>=b-c:=za 0x106a002428bd006 [a,b,c] []
def zAG:a+2*(b+1)+10<c->a+1+2*b+10<c:=za 0x248000548200005648294a50024800054921a000015814a5006 [a,b,c] []
def zAH:a+2*c+10<b->a<b:=za 0xa41400520001521000015814a5006 [a,b,c] []
def zAI:a+c+1<=b->a<b:=za 0x1482800a440a5006 [a,b,c] []
def zAJ:a<b-c\/b+1<=a->¬a=b-c:=za 0x7106a0118090d0020d520a00a6 [a,b,c] []
def zAK:a<=b/\b<c->a<=b:=za 0x1000490d00100086 [a,b,c] []
def zAL:a<=c/\c<b->a+b-1-c<b:=za 0x148921052b5a00291500200086 [a,b,c] []
def zAM:a<=c/\c<b->a<=a+b-1-c:=za 0x921052b5000291500200086 [a,b,c] []
def zwC:b+(c+1)-(0+1)<=a->a<b+(c+1)->a=b+(c+1)-1:=za 0x2522a069500922a0689050060251448a81a5406 [a,b,c] []
def zAN:b+c-(0+1)<=a->a<b+c->a=b+c-1:=za 0x91069500841a24140180945041a5406 [a,b,c] []
def zAO:b-1-c>0->a<c+(b-1-c)->a<b-1:=za 0x90d520a00490d6a2a2414018490d6a945006 [a,b,c] []
def zAP:b<a\/c<=b->¬(a<=b/\b<c):=za 0x712434004002182200121a00a6 [a,b,c] []
def zAQ:c<a-b\/a+1<=c->¬(a-b<c/\c<=a):=za 0x1c020092105680218490500105522a00a6 [a,b,c] []
def zAR:c<=a/\a<b->a<b:=za 0x520a00290500010086 [a,b,c] []
def zwD:a+(b+1)<=c->a+b+1<=c:=za 0x921052801243405006 [a,b,c] []
def znK:a+(b+1)<=c->a+b<c:=za 0x921052801243405006 [a,b,c] []
def zwE:a+(b+1)<=c->a+b<=c:=za 0x2082801243405006 [a,b,c] []
def zAS:a+(c+1)=b->a<b:=za 0x1482800a45405046 [a,b,c] []
def zwF:a+(c+1)<=8->b<c+1->a+1+b<=8:=za 0x40290528048a890d0068245405006 [a,b,c] []
def zwG:a+(c+1)<=b->a<b:=za 0x1482800a45405006 [a,b,c] []
def zAT:a+(c+10)<b->a<b:=za 0x520a00290000a90a80a5006 [a,b,c] []
def zAU:a+2000<c->b+1<=100->a+2*b+10<c:=za 0x1240002a4100002b0294a0000192490d00612401f4240a5006 [a,b,c] []
def zAV:a+3000<c->b<=100->a+2*b+10<c:=za 0x490000a9040000ac0a5280000649040612402ee240a5006 [a,b,c] []
def zAW:a+b<=c->a-1+b<=c:=za 0x20a415a004105006 [a,b,c] []
def zAX:a+b<=c->a+(b-1)<=c:=za 0x2486a0a004105006 [a,b,c] []
def zAY:a+b<=c->a+b<=c:=za 0x820a004105006 [a,b,c] []
def zAZ:a+c<=b->1<=c->a<b:=za 0x520a00490182205006 [a,b,c] []
def zA0:a+c<=b->a+(b-a)=b:=za 0x1006a0a082205006 [a,b,c] []
def zA1:a+c<=b->a<=b:=za 0x10002205006 [a,b,c] []
def zwH:a-b=c+1->a-(b+1)=c:=za 0x921a02a248a8105446 [a,b,c] []
def zwI:b-a=c+1->a<b:=za 0x14828048a800d446 [a,b,c] []
def zA2:b-c>0->a<c+(b-c)->a<b:=za 0x520a0041a8a8905006106a945006 [a,b,c] []
def zA3:c+(b+1)<100->a<=c+1->a+b<100:=za 0x3249210528048a80018001924948682a5006 [a,b,c] []
def zA4:c+1<a->1<=a+b:=za 0x10512002522a5006 [a,b,c] []
def zA5:c+1=b->c<=a->a<b->a=b-1:=za 0x90d4020a414018020182915046 [a,b,c] []
def zrT:c+1<=b+1->a<c+1->a<=b:=za 0x40048a89050064868915006 [a,b,c] []
def zwJ:c+1<=b->a<=a+b-(c+1):=za 0x2454082950002915006 [a,b,c] []
def zA6:c+a<=b->a<=b-c:=za 0x8350002015006 [a,b,c] []
def ztV:1<=b+c->a+(b+c)-1<a+(b+c):=za 0x20d0144a441a0295a0041a2406 [a,b,c] []
def zA7:1<=b->a<=c->a+(a+b)-1-c<a+b:=za 0x4144892105014ad680100060a406 [a,b,c] []
def zA8:1<=c->c<=a->1<=a+b:=za 0x1051200080612406 [a,b,c] []
def zwK:a<b+1+c->a<b+(c+1):=za 0x24540d120a00490d28905006 [a,b,c] []
def zA9:a<b+1-min c (b+1)->a<=b-c:=za 0x83500121a0b090d2a905006 [a,b,c] []
def zBa:a<b+c+1->a<=b+c:=za 0x834001220d28905006 [a,b,c] []
def zwL:a<b+(c+1)->¬a<b+c->a=b+c:=za 0x20d002388344828031922a068905006 [a,b,c] []
def zBb:a<b+(c+1)->¬a=b+c->a<b+c:=za 0x20d120a00e20d00231922a068905006 [a,b,c] []
def zwM:a<b+c->a<b+c:=za 0x834482801068905006 [a,b,c] []
def zBc:a<b+c->a<=b+c-1:=za 0x2441a54001068905006 [a,b,c] []
def zBd:a<c->a+min b (c-a)<=c:=za 0x802a8700a004905006 [a,b,c] []
def zBe:a<c->a-b<c:=za 0x248415a004905006 [a,b,c] []
def zBf:a<c->a-b<=c:=za 0x820a804905006 [a,b,c] []
def zBg:a<c->a<b+(c-b):=za 0x4550d120a004905006 [a,b,c] []
def zBh:a=b+1+c->a=b+(c+1):=za 0x24540d00212434a0046 [a,b,c] []
def zwN:a=b+1->c<b->c=a->False:=za 0x7008460a45401921a0046 [a,b,c] []
def zwO:a=b+3->c<b->c=a->False:=za 0x7008460a45401961a0046 [a,b,c] []
def zBi:a=b+c->b<=1000->c<=1000->a<=100000:=za 0x30d41200000fa24201800fa24101841a0046 [a,b,c] []
def zBj:a=c->b=c+1->a<=b:=za 0x100122a044610046 [a,b,c] []
def zqg:a=c->c<b->a<=b:=za 0x1000291500610046 [a,b,c] []
def zBk:a=c->c<=b->a+(b-a)=b:=za 0x401a82820880610046 [a,b,c] []
def zrU:a=c->c<=b->a<=b:=za 0x4000880610046 [a,b,c] []
def zwP:a=c->¬b<c->a<=b:=za 0x40038921a00c610046 [a,b,c] []
def zwQ:a<=b+c->¬a=b+c->a<=b+c-1:=za 0x910695000e20d00231841a0006 [a,b,c] []
def zBl:a<=b-(c+1)->a>0->¬c+1+a=b->a<b-(c+1):=za 0x915035482803840915282318094500648a81a8006 [a,b,c] []
def zBm:a<=b-c->a>0->¬c+a=b->a<b-c:=za 0x8354828038402a08c60251401841a8006 [a,b,c] []
def zwR:a<=b->b-a<=c-max 0 c->a=b:=za 0x100848b8aa00d40608006 [a,b,c] []
def zBn:a<=b->min a b-c=a-c:=za 0x205441062a208006 [a,b,c] []
def zrV:a<=c->c<b->a<b:=za 0x520a00291500610006 [a,b,c] []
def ztW:a<=c->c=b->a<=b:=za 0x4000884610006 [a,b,c] []
def zBo:a<=c->c<=b->a<=b:=za 0x4000880610006 [a,b,c] []
def zBp:a<=c->a-b<=c-0:=za 0x2055082a010006 [a,b,c] []
def zBq:b<100->a<=c+1->c=b->a<=200:=za 0x6448000884648a8001800192490d006 [a,b,c] []
def zBr:b<c->max 0 c+1<=a->a>=b+1:=za 0x121a0009122f4018490d006 [a,b,c] []
def zBs:b<c->a+b+1<=a+c:=za 0x81448414a00490d006 [a,b,c] []
def ztX:b<c->a+b<a+c:=za 0x81448414a00490d006 [a,b,c] []
def zBt:b<c->a+b<=a+c:=za 0x205020a00490d006 [a,b,c] []
def ztY:b=c+1->a<c->a≠b:=za 0x7080461241401922a0446 [a,b,c] []
def zBu:b=c+1->a=c+3->a≠b:=za 0x70804658a8011922a0446 [a,b,c] []
def zwS:b=c+3->a<c->a≠b:=za 0x7080461241401962a0446 [a,b,c] []
def zBv:b=c->a<c->a<b:=za 0x520a00490500610446 [a,b,c] []
def zrW:b=c->a<c->a<=b:=za 0x1000490500610446 [a,b,c] []
def ztZ:b=c->a<=c->a<=b:=za 0x4001000610446 [a,b,c] []
def zBw:b=c->¬c<a->a<=b:=za 0x40038122a00c610446 [a,b,c] []
def zBx:b<=c-(a+1)->b>0->¬a+1+b=c->a+1+b<c:=za 0x248520a52803882905282318294500648282a8406 [a,b,c] []
def zBy:b<=c-(a+1)->b>0->a+1+b<=c:=za 0x20a414a00294500648282a8406 [a,b,c] []
def zwT:b<=c-a->1<=b->a+b<=c:=za 0x820a002901802a8406 [a,b,c] []
def zBz:b<=c-a->b>0->¬a+b+1=c->¬a+b=c->a+b+1<c:=za 0x92908294a00e208282318e248414a08c60a51401802a8406 [a,b,c] []
def zBA:b<=c-a->b>0->a+b<=c:=za 0x2082800a51401802a8406 [a,b,c] []
def zBB:b<=1000->c<=1000->a=b+c->a<=1000000:=za 0x1e8481200041a0046003e890806003e890406 [a,b,c] []
def zBC:b<=1000000->b=c->a=c->a<=16777216:=za 0x8000004c001004610446f424090406 [a,b,c] []
def zBD:b<=8->a<=20+8*c->a+b<=20+8*(c+1):=za 0x915000022c000292a041400800022c000292a000680406 [a,b,c] []
def zwU:b<=a->a<b+c->a-b<c:=za 0x92105680106890500600406 [a,b,c] []
def zqh:b<=c->a+b<=a+c:=za 0x8140828010406 [a,b,c] []
def zBE:c<a+b->a<=a+(a+b)-1-c:=za 0x92105014ad4000828915006 [a,b,c] []
def zBF:c<0->a<=b:=za 0x10010915006 [a,b,c] []
def zwV:c<a->a<=b->a-1<b:=za 0x14a415a00200180915006 [a,b,c] []
def zBG:c<b->a+1-min b (a+1)<=a-c:=za 0x81548281c2414a802915006 [a,b,c] []
def zBH:c=a+1->b=c->a<=b:=za 0x10004111920a0846 [a,b,c] []
def zBI:c=b+1->a=c->¬a<b:=za 0x70a4140184011921a0846 [a,b,c] []
def zBJ:c=b+3->a=c->¬a<b:=za 0x70a4140184011961a0846 [a,b,c] []
def zBK:c=b->c=a->a=b:=za 0x4020084608846 [a,b,c] []
def zwW:c<=a->a<=b->b<c+1->a=b:=za 0x40248a890d0060800600806 [a,b,c] []
def zBL:c<=a->(a<b->c<b):=za 0x522a00290500600806 [a,b,c] []
def zBM:c<=b->a<0+(c-1)->a<b:=za 0x520a0122aa2890500608806 [a,b,c] []
def zBN:c<=b->a<0+c->a<b:=za 0x148280122890500608806 [a,b,c] []
def zBO:c<=b->a<c+(b-c)->a<b:=za 0x520a0041a8a890500608806 [a,b,c] []
def zwX:c<=b->c=a->a<=b:=za 0x4000084608806 [a,b,c] []
def zBP:c<=b->a+b-(a+b-(a+c))=a+c:=za 0x81410281052a1052a208806 [a,b,c] []
def zBQ:c<=b->(¬a<b->¬a<c):=za 0x1c490500638520a00c608806 [a,b,c] []
def zBR:¬b>=c-a->a+b<c:=za 0x9210528038402a80c6 [a,b,c] []
def zt0:¬c<a+b->a+b<=c:=za 0x820a00e105122a00c6 [a,b,c] []
def zBS:¬c<b->c<=a->a<=b->a=b:=za 0x402080060080638522a00c6 [a,b,c] []
def zBT:¬c=a+b->¬a+b=c:=za 0x1c410504638414108c6 [a,b,c] []
def zBU:¬c=0->a+b+(c-1)=a+(b+c)-1:=za 0x910680a5522a8414a08e8108c6 [a,b,c] []
def zBV:a+b<=a+b/\a+b<a+b+(c+1):=za 0x915020a5121052800828105004 [a,b,c] []
def zwY:a+(b+c)-(a+b)=c:=za 0x820a0834052a2 [a,b,c] []
def zBW:a+(b+c)-1=a+b+c-1:=za 0x24410529548834052a2 [a,b,c] []
def zBX:a+b-(a+c)<=a+b:=za 0x41410281052a0 [a,b,c] []
def zBY:min (a-b) (c-b)<=c:=za 0x208aa105700 [a,b,c] []
def zwZ:a+(b+c)=a+b+c:=za 0x820a5041a0282 [a,b,c] []
def zw0:a<=a+b+c:=za 0x820a5000 [a,b,c] []
def zBZ:a<=a+b-(a+b-(a+c)):=za 0x205020a5420a5400 [a,b,c] []
def zB0:¬(a+(b+1)<=a+b/\a+b<a+(b+1)+c):=za 0x71243405289082940041448680a0086 [a,b,c] []
def zB1:a+(b+1)<=c/\c<a+(b+1)+d->a+b<=c/\c<a+b+(d+1):=za 0x91d020a5122a0041050041a434052891500248680a0086 [a,b,c,d] []
def zB2:a+c<b/\b<=a+d->a<=b-1:=za 0x243500060a040148814a0086 [a,b,c,d] []
def zB3:b+(c+1)<=a/\a<b+(c+1)+d->a-(b+c)=a-(b+(c+1))+1:=za 0x2522a0680ad041a02a21a4540d2890500048a81a0086 [a,b,c,d] []
def zB4:b+d<a/\a<=b+c->a-1<b+c:=za 0x8344a415a0041a000048c34a0086 [a,b,c,d] []
def zw1:a+2*max b d+10<c->a+2*b+10<c:=za 0x920001520800015814a50024800054861b800015814a5006 [a,b,c,d] []
def zw2:a+2*max d b+10<c->a+2*b+10<c:=za 0x920001520800015814a50024800054823b800015814a5006 [a,b,c,d] []
def zB5:a+(b+1)-(c+1+1)<=d->a+b-(c+1)<=d:=za 0xd22a0414a806948a9448680a5406 [a,b,c,d] []
def zB6:a+b+(c+1)<=d->a+(b+1)+c<=d:=za 0xc490d014a006915020a5006 [a,b,c,d] []
def zB7:a+b+(d+1)<=c->a+b<c:=za 0x248414a00491d020a5006 [a,b,c,d] []
def zB8:a-b+(c-d)<=a+c-max 0 (a+c)->b+1<a->False:=za 0x1c094869401840a22e2052a315420ad006 [a,b,c,d] []
def zB9:c=d\/a<b->¬c=d->a<=b:=za 0x40038c423182905003108a6 [a,b,c,d] []
def zCa:min a b<=c->1<=d->min (a+1) b<=c+d:=za 0xc540a414c00690184106006 [a,b,c,d] []
def zCb:min c d=1->a=c->b=d->min (a:Int) (b:Int)=1:=za 0x90e419c0c61118401192316046 [a,b,c,d] []
def zCc:a+min b (d-a)<=c->b<d-a->a+b<=c:=za 0x820a0003aa434018401d43805006 [a,b,c,d] []
def zCd:a+3000<d->b<=100->a+1+min b c<d:=za 0xd220e120a528000064904061a402ee240a5006 [a,b,c,d] []
def zw3:a+3000<d->b<=100->a+min b c<d:=za 0x3488380528000064904061a402ee240a5006 [a,b,c,d] []
def zCe:a+b<=c+d-max 0 (c+d)->2<=b->False:=za 0x1c2a01862a22e3152a105006 [a,b,c,d] []
def zCf:a+b<=c-(d+1)->a+b<=c-1:=za 0x915420a0123a0aa105006 [a,b,c,d] []
def zCg:a+d<=c->d-1-b>0->a+b<=c:=za 0x2082800a475aa5140184305006 [a,b,c,d] []
def zt1:a+d<=c->b<d->a+b-1<c:=za 0x24a420a56801a4340184305006 [a,b,c,d] []
def zqi:a+d<=c->b<d->a+b<c:=za 0x921052801a4340184305006 [a,b,c,d] []
def zCh:a+d<=c->b<d->a+b<=c:=za 0x2082801a4340184305006 [a,b,c,d] []
def zCi:a+d<=c->b<=d->¬b=d->a+b-1<c:=za 0x24a420a568038c22318610184305006 [a,b,c,d] []
def zt2:a+d<=c->b<=d->a+b<=c:=za 0x820a00610184305006 [a,b,c,d] []
def zCj:b+d<=a->a<b+c->a-b<c:=za 0x248415a0041a2414018030d006 [a,b,c,d] []
def zCk:c+d<=b-(a+1)->2<=d->a+1<=b:=za 0x520a006a01920a06a315006 [a,b,c,d] []
def zw4:c+d<=1000000->c=a->d=b->a+b<=16777216:=za 0x8000004c20a00231180211bd09024315006 [a,b,c,d] []
def zCl:d+(b+10)<c->a<=d+9->a+b<c:=za 0x9210528088e80018490000a90683a5006 [a,b,c,d] []
def zCm:d+a<b->b<=c->a<min b c-d:=za 0x31071548280104060a403a5006 [a,b,c,d] []
def zCn:d+b<=c->a<=d->a+b<=c:=za 0x820a0060018411d006 [a,b,c,d] []
def zCo:1<=c+d->d=0->a<b+(c+d)->a-b<c:=za 0x9210568018a81a24140190311862a2406 [a,b,c,d] []
def zCp:1<=a->a+b<=c-d->a-1+b<=c-(d+1):=za 0x2474154290568018aa10500602406 [a,b,c,d] []
def zw5:1<=c->d<=a-b->1<=d->1<=min (a-b) c:=za 0x2082b84806901820a8c0612406 [a,b,c,d] []
def zCq:1<=d->a+d+b<=c->a+(b+1)<=c:=za 0x921a028010460a50061a406 [a,b,c,d] []
def zCr:1<=d->min a b<=c->min (a+1) b<=c+min (b-c) d:=za 0xc41ae0540a414c0041060061a406 [a,b,c,d] []
def zCs:2<=b->a+b<=c-d->a+(b-1)<=c-(d+1):=za 0x247415521a828018aa1050060a806 [a,b,c,d] []
def zCt:a<b+min (max c 1) d->¬c=0->a<b+c:=za 0x20d120a00e8108c61a457c068905006 [a,b,c,d] []
def zCu:a<b+(c+d)->a<=b+(c+d)-1:=za 0x2462a069500062a068905006 [a,b,c,d] []
def zCv:a<b+c->a<b+(c+d):=za 0x315034482801068905006 [a,b,c,d] []
def zCw:a<b+c->a<=b+(c+d)-1:=za 0x918a81a54001068905006 [a,b,c,d] []
def zCx:a<b+c->a<=b+c+d:=za 0xc41a50001068905006 [a,b,c,d] []
def zCy:a=b+(c+d)->a=b+c+d:=za 0xc41a500218a81a0046 [a,b,c,d] []
def zCz:a=c+(d+1)->b=c+(d+1+1)->a+1=b:=za 0x520a09291d282a044648e82a0046 [a,b,c,d] []
def zCA:a=c+d->¬b<c+d->a<=b:=za 0x40038c544868031862a0046 [a,b,c,d] []
def zCB:a=c->b=d->min c d=1->min a b=1:=za 0x2420c0923160461844610046 [a,b,c,d] []
def zCC:a<=0+b->b=c+d->c<=80/\d<=80->a<=10000:=za 0x138848000005090c0000a121008618a8111828a0006 [a,b,c,d] []
def zCD:a<=b-c->a<d->a<=min (b-c) d:=za 0xc41ae0001a41401841a8006 [a,b,c,d] []
def zCE:a<=b->b<=d->d<a+c->a<=b/\b<a+c:=za 0x8144868008004102891d0061840608006 [a,b,c,d] []
def zCF:a<=d->b<=c->a+b<=c+d:=za 0xc54082801040618006 [a,b,c,d] []
def zw6:a<=d->d<b+c->a<b+c:=za 0x83448280106891d00618006 [a,b,c,d] []
def zCG:a<=d->d<=b->b<a+c->a<=b/\b<a+c:=za 0x8144868008004102890d00608c0618006 [a,b,c,d] []
def zCH:a<=d->¬a<b+c->¬a=d->a-(b+c)<d-(b+c):=za 0x20d075488340568038c02318e20d120a00c618006 [a,b,c,d] []
def zCI:a<=d->¬a=b+c->d=b+c->a<b+c:=za 0x20d120a0041a0c4638834008c618006 [a,b,c,d] []
def zCJ:b<c->a+b<d->a+b+1<=a+min c (d-a):=za 0x751601448414a006908294018490d006 [a,b,c,d] []
def zCK:b=c+d->a<c+d->a<b:=za 0x520a0062a241401862a0446 [a,b,c,d] []
def zCL:b<=1000000->b=c->d<c->a=d->a+1<=16777216+1:=za 0x90000000010000009d120a0060118491d00610446f424090406 [a,b,c,d] []
def zCM:b<=1000000->b=c->d<c->a=d->a<=16777216:=za 0x2000001300060118491d00610446f424090406 [a,b,c,d] []
def zCN:b<=c->a<=d->a+b<=c+d:=za 0xc54082801800610406 [a,b,c,d] []
def zt3:c<d->a+b+c<a+(b+d):=za 0xc340512208294a006915006 [a,b,c,d] []
def zCO:c<d->a+b+c<=a+(b+d)-1:=za 0x2461a029510414a006915006 [a,b,c,d] []
def zw7:c=a->c<=d->d<=b->a<=b:=za 0x40008c061880600846 [a,b,c,d] []
def zrX:c=a->d=b->c<=d->a<=b:=za 0x4001880608c4600846 [a,b,c,d] []
def zw8:c=b->d=a->d<=c->a<=b:=za 0x40010c0600c4608846 [a,b,c,d] []
def zw9:c=b->d<=c->a<=d->a<=b:=za 0x4001800610c0608846 [a,b,c,d] []
def zCP:c=d->a<=d->c<=b->a<=b:=za 0x400088061800618846 [a,b,c,d] []
def zCQ:c=d->b<d->min b c=a->a=b:=za 0x40200838118690d00618846 [a,b,c,d] []
def zCR:c=d->b=d+1->a<c->¬a=b:=za 0x7080461241401923a044618846 [a,b,c,d] []
def zxa:c<=1000->b<=d->a<=c->d<=8->a+b<=1000000:=za 0x1e848120828080c061000618406003e890806 [a,b,c,d] []
def zCS:c<=3->d<=3->a=c->b=d->max (a:Int) (b:Int)<=3:=za 0x2c39066e1184461004658c0658806 [a,b,c,d] []
def zCT:c<=b->a=d->d<c->a<=b:=za 0x1000491d0061804608806 [a,b,c,d] []
def zCU:c<=d->d<c->a<b:=za 0x520a00491d00618806 [a,b,c,d] []
def zCV:c<=d->a+b+c<=a+b+d:=za 0xc20a50410528018806 [a,b,c,d] []
def zCW:d<=max 1 (b-c)->a+1=d->a<=max 1 (b-(c+1)):=za 0x24540d5370006905046106a9b8c06 [a,b,c,d] []
def zCX:d<=b+1->a<=d+c->a<=b+(c+1):=za 0x24540d00010e8001921a0c06 [a,b,c,d] []
def zt4:d<=b-a->1<=d->a+min (b-a) c<=b:=za 0x4400d700a006901801a8c06 [a,b,c,d] []
def zCY:d<=c->a<b+(c+1)->¬a=b+d->¬(b+d<a/\a<=b+c)->a<b+c:=za 0x20d120a00e20d00002461a5004318e30d00231922a06890500610c06 [a,b,c,d] []
def zCZ:d<=c->d=a+b->¬c=a+b->a+b<=c-1:=za 0x915420a00e10504231820a0c4610c06 [a,b,c,d] []
def zC0:d<=c->a+(a+b)-1-c<=a+(a+b)-1-d:=za 0xd2105014ad44908280a56a010c06 [a,b,c,d] []
def zC1:¬c=a+b->¬(a+(b+1)<=c/\c<a+(b+1)+d)->¬(a+b<=c/\c<a+b+(d+1)):=za 0x748e81052891500208280218e348680a5122a00490d014010c638414108c6 [a,b,c,d] []
def zC2:¬d<a+(b+c)->a+(b+c)+(d-(a+(b+c)))=d:=za 0xc41a0283a8834052823883405123a00c6 [a,b,c,d] []
def zt5:¬d<a+(b+c)->a+(b+c)<=d:=za 0xc41a02803883405123a00c6 [a,b,c,d] []
def zxb:a+(b+c)+d-(a+(b+c))=d:=za 0xc41a028310680a52a2 [a,b,c,d] []
def zC3:a+b+(c+d)=a+(b+c)+d:=za 0xc41a029418a8105282 [a,b,c,d] []
def zxc:a+(b+c)<=a+(b+c)+d:=za 0x310680a5041a0280 [a,b,c,d] []
def zC4:a+b+c+e<=d->a+b+c<=d:=za 0x310414a006410414a5006 [a,b,c,d,e] []
def zxd:a+2*max b e+10<d->a+min b c<d:=za 0x6910700a50034800054881b800015814a5006 [a,b,c,d,e] []
def zC5:a+(b+d)+e<=c->¬(a+b<=c/\c<a+(b+d)+e):=za 0x720c340528915002082802184418680a5006 [a,b,c,d,e] []
def zC6:a+b+d<=e->c=e->a+b<=c:=za 0x2082802084620c20a5006 [a,b,c,d,e] []
def zC7:a-b+(c-d)<=a+c-e-1->a-b+(c-d)<=a+c-(e+1):=λh=>fE h (pC (Nat.sub_sub _ _ _))
def zC8:a-b+(c-d)<=e-max 0 (a+c)->a-b+(c-d)<=e-1:=have g {a b e:Nat}:a<=b->a<=e-max 0 b->a<=e-1:=lin (.i (.p v0 v1) (.i (.p v0 (.s v2 (.x n0 v1))) (.p v0 (.s v2 n1)))) [a,b,e] [];g (fCN (fCA _ _) (fCA _ _))
def zC9:a-b+(c-d)<=e->a-(b+1)+(c-d)<=e:=za 0x418aa90d015a008315420ad006 [a,b,c,d,e] []
def zDa:a-b+(c-d)<=e->a-b+(c-(d+1))<=e:=za 0x448e82a8415a008315420ad006 [a,b,c,d,e] []
def zDb:a-b+(c-d)<=e->a-b+(c-d)<=e:=za 0x1062a8415a008315420ad006 [a,b,c,d,e] []
def zDc:a<=b\/c<=d->a<=b\/c<=d+e:=za 0x41d0400800518801000a6 [a,b,c,d,e] []
def zDd:a+b<=c+d-e-1->a+b<=c+d-(e+1):=za 0x249418a950828049062a56a105006 [a,b,c,d,e] []
def zDe:a+e<=d->b<e->a+(b-c)<d:=za 0x34883505280224340186405006 [a,b,c,d,e] []
def zDf:a+e<=d->¬c>=e-b->a+(b+c)<d:=za 0xd220d014a00e2092a03186405006 [a,b,c,d,e] []
def zDg:1<=d+e->a+b<=c-max 0 (d+e)->a+b<=c-1:=za 0x915420a0083a22e2a841401883a2406 [a,b,c,d,e] []
def zDh:1<=d->a+b+d<=e->c=e->a+b<c:=za 0x921052802084620c20a50061a406 [a,b,c,d,e] []
def zxe:1<=e->a<b+(c+d)+e->a-(b+(c+d))<e:=za 0x1123150340568020c540d2890500622406 [a,b,c,d,e] []
def zDi:a<b+(c+1)->b+d<e/\e<=b+c->a-1<b+c:=za 0x20d1290568010684011230d28021922a068905006 [a,b,c,d,e] []
def zDj:a=0->a<=b-(c+(d+e)):=za 0x41d0540d40040046 [a,b,c,d,e] []
def zDk:a<=b->c+d<a/\a<=c+e->b=c+d->False:=za 0x718a8111882a000048c54a008608006 [a,b,c,d,e] []
def zDl:a<=b->b<c+(d+1)->c+e<a/\a<=c+d->¬(c+e<b/\b<=c+d)->False:=za 0x738c540802920a94010c618a80001241528021923a0a890d00608006 [a,b,c,d,e] []
def zDm:a<=b->b<c+(d+1)->a=c+e->¬b=c+e->¬(c+e<b/\b<=c+d)->False:=za 0x738c540802920a94010c639054088c620a8011923a0a890d00608006 [a,b,c,d,e] []
def zDn:a<=b->¬(c+d<a/\a<=c+e)->c+d<b/\b<=c+e->a<=b-1:=za 0x243500082a040148c54a0086390540000918a94010c608006 [a,b,c,d,e] []
def zxf:c<a+b->¬(a+b<=c/\c<a+(b+d)+e):=za 0x1c830d014a245400820a00860828915006 [a,b,c,d,e] []
def zDo:c=d->a<=d->b=e->c<=e->a<=b:=za 0x40020806204461800618846 [a,b,c,d,e] []
def zDp:c<=a->a<=b->b<c+min (max d 1) e->d=0->a=b:=za 0x40240c4622477c0a890d0060800600806 [a,b,c,d,e] []
def zDq:d<e->a+(b+c)+d<a+(b+c)+e:=za 0x1041a029448c41a0294a00891d006 [a,b,c,d,e] []
def zDr:d<=a->a<b+(c+1)->d=b+e->¬a=b+e->a-1<b+c:=za 0x20d1290568039034008c62068311922a06890500600c06 [a,b,c,d,e] []
def zDs:d<=b->c<=e->a<d\/e<=a->a<b\/c<=a:=za 0x400a4140140400d20a00a62080608c06 [a,b,c,d,e] []
def zDt:d<=e->a+(b+c)+d<=a+(b+c)+e:=za 0x1041a0294188340528020c06 [a,b,c,d,e] []
def zDu:¬a<b+(c+d)+e->a=b+(c+d)+e+(a-(b+c+(d+e))):=za 0x41d041a501520c540d294008e418a81a5120a00c6 [a,b,c,d,e] []
def zDv:¬b<c+(d+e)+a->a<=b-(c+(d+e)):=za 0x107415035000e020e82a5121a00c6 [a,b,c,d,e] []
def zDw:¬c<a+(b+d)+e->¬(a+b<=c/\c<a+(b+d)+e):=za 0x720c34052891500208280218e418680a5122a00c6 [a,b,c,d,e] []
def zDx:¬c<a+b->c<a+(b+d)+e->a+b<=c/\c<a+(b+d)+e:=za 0x1061a029448a8010414010830d014a2454018e105122a00c6 [a,b,c,d,e] []
def zDy:¬d<a+(b+c)+e->a+(b+c)+(d-(a+(b+c)))=d:=za 0x310680a0ea20d014a08e410680a5123a00c6 [a,b,c,d,e] []
def zDz:¬d<a+(b+c)+e->a+(b+c)<=d:=za 0x310680a00e410680a5123a00c6 [a,b,c,d,e] []
def zxg:¬e<a+(b+c)+d->a+(b+c)+d<=e:=za 0x10620d014a00e310680a5124a00c6 [a,b,c,d,e] []
def zDA:a-b+(c-d)<=e-(f+1)->a-b+(c-d)<=e-1:=have g {a e f:Nat}:a<=e-(f+1)->a<=e-1:=lin (.i (.p v0 (.s v1 (.a v2 n1))) (.p v0 (.s v1 n1))) [a,e,f] [];g
def zDB:a-b+(c-d)<=f->a-b+(c-(d+1+e))<=f:=za 0x14891d282a8415a00a315420ad006 [a,b,c,d,e,f] []
def zDC:a-b+(d-e)<=f->a-(b+c)+(d-e)<=f:=za 0x520ea20d015a00a41d420ad006 [a,b,c,d,e,f] []
def zDD:c-d+(e-f)<=b-(a+1)->d+1<c->a+1<=b:=za 0x520a004948e9401920a06a525462ad006 [a,b,c,d,e,f] []
def zDE:d<=b\/c<=e->e<=a->a<=f->f<d->a<b\/c<=a:=za 0x400a414014692d006280060100620801180a6 [a,b,c,d,e,f] []
def zDF:d<=b\/c<=e->e<=f->f<=a->a<d->a<b\/c<=a:=za 0x400a4140146905006014062900620801180a6 [a,b,c,d,e,f] []
def zDG:e<=c\/d<=a->a+b+f<=e->a+b<=c\/d<=a:=za 0x180410500521420a500600c02200a6 [a,b,c,d,e,f] []
def zDH:b+1<a->a-b+(c-d)<=e-f->a-(b+1)+(c-d)<=e-(f+1):=have g {a b c e f:Nat}:b+1<a->a-b+c<=e-f->a-(b+1)+c<=e-(f+1):=lin (.i (.p (.a (.a v1 n1) n1) v0) (.i (.p (.a (.s v0 v1) v2) (.s v3 v4)) (.p (.a (.s v0 (.a v1 n1)) v2) (.s v3 (.a v4 n1))))) [a,b,c,e,f] [];g
def zDI:a<=f->f<b+(c+d)+e->a<b+(c+d)+e:=za 0x1062a06944828020c540d2892d00628006 [a,b,c,d,e,f] []
def zDJ:c=d->a+(b+e)+f<=d->min (a+b) c=a+b:=za 0x41410414c086520680a500618846 [a,b,c,d,e,f] []
def zDK:d<c->a-b+(c-d)<=e-f->a-b+(c-(d+1))<=e-(f+1):=have g {a c d e f:Nat}:d<c->a+(c-d)<=e-f->a+(c-(d+1))<=e-(f+1):=lin (.i (.p (.a v2 n1) v1) (.i (.p (.a v0 (.s v1 v2)) (.s v3 v4)) (.p (.a v0 (.s v1 (.a v2 n1))) (.s v3 (.a v4 n1))))) [a,c,d,e,f] [];g
def zxh:d=e->a+(b+c)+f<=e->a+(b+c)<=d:=za 0x310680a008510680a500620c46 [a,b,c,d,e,f] []
def zDL:d=e->1<=b+c->a+(b+c)+f<=e->a+b+c-1<d:=za 0xd2910414a568021441a029401841a240620c46 [a,b,c,d,e,f] []
def zDM:e=f->a+(b+c)+d<=f->a+(b+c)+d<=e:=za 0x10620d014a00a310680a500629046 [a,b,c,d,e,f] []
def zDN:e<=d->a+b+c+f<=e->a+b+c<=d:=za 0x310414a008510414a500619006 [a,b,c,d,e,f] []
def zDO:e<=f->c<a\/a+(b+d)+f<=c->¬(a+b<=c/\c<a+(b+d)+e):=za 0x1c830d014a245400820a008611461a029400122a00a629006 [a,b,c,d,e,f] []
def zxi:f<=e->d<f->a+(b+c)+d<a+(b+c)+e:=za 0x1041a029448c41a0294a00a91d00621406 [a,b,c,d,e,f] []
def zt6:¬e=0->d=f+e->a<b+(c+f)+e->a-(b+c)<d:=za 0x34883405680214540d2890500621683118e8208c6 [a,b,c,d,e,f] []
def zDP:b=d+e->a=f+g->¬c<f+(g+d)+e->a+b<=c:=za 0x820a00e419a85a5122a00c63168011883a0446 [a,b,c,d,e,f,g] []
def zDQ:e=f->a+(b+c)+g<=f->d<=g->a+b+0+(c+d)<=e:=za 0x418a8808294a00c3018a610680a500629046 [a,b,c,d,e,f,g] []
def zxj:e=f->a+(b+c)+g<=f->d<=g->a+(b+c)+d<=e:=za 0x10620d014a00c3018a610680a500629046 [a,b,c,d,e,f,g] []
def zDR:¬d=0->c=e+d->b=f+g->a<f+(g+e)+d->a-b<c:=za 0x248415a0064350b4a2414018c5a044619282118e8188c6 [a,b,c,d,e,f,g] []
def zxk:¬e=0->d=f+e->a<=g->g<b+(c+f)+e->a-(b+c)<d:=za 0x34883405680214540d289350063000621683118e8208c6 [a,b,c,d,e,f,g] []
end
section
open La
variable{a b c d e f g i j k m o:Nat}{u v w x y z s t r:Int}
def zDS:u<=v->v<=u->u=v:=za 0x4030042608026 [] [u,v]
def zxl:u<=v->¬v=u->u<v:=za 0x520a04e008cc608026 [] [u,v]
def zDT:v<=u->¬v<u->u=v:=za 0x40338121a04c600426 [] [u,v]
def zDU:u<=min v w->u<=v:=za 0x100441c0026 [] [u,v,w]
def zDV:u<=min w v->u<=v:=za 0x100422c0026 [] [u,v,w]
def zDW:u<=v+w->u>v+w->False:=za 0x1c091069409841a0026 [] [u,v,w]
def zxm:u<=w->w<v->u<=v:=za 0x1004291502610026 [] [u,v,w]
def zDX:u<=w->w<=v->u<=v:=za 0x4010882610026 [] [u,v,w]
def zDY:w<v->u<w->u<v:=za 0x148281124140982915026 [] [u,v,w]
def zDZ:w<v->u=w->u<v:=za 0x520a04401982915026 [] [u,v,w]
def zD0:w<v->v<=w->u<=v:=za 0x1004410982915026 [] [u,v,w]
def zD1:w<v->w=u->u<v:=za 0x520a04021982915026 [] [u,v,w]
def zD2:w<v->¬w<u->u<v:=za 0x520a04e048a813182915026 [] [u,v,w]
theorem zD3:w=u->w<v->u<v:=za 0x520a04291502600866 [] [u,v,w]
theorem zD4:¬u>v+w->u<=v+w:=za 0x834004e048834a04c6 [] [u,v,w]
theorem zD5:¬v<=w->u<=w->u<=v:=za 0x100440098e2084c6 [] [u,v,w]
theorem zD6:0<=w->x>u+w->x<=v->u<v:=za 0x14828108c261a440a502612026 [] [u,v,w,x]
theorem zD7:u=w->w<v/\v<=w+x->u<v:=za 0x14828118a8108522a048610066 [] [u,v,w,x]
theorem zD8:u>v+w->x<=v+w->u<=x->False:=za 0x1c6009841a0c2602441a5026 [] [u,v,w,x]
theorem zD9:u<=x+w->x<=v->u<=v+w:=za 0x8340042309843a0026 [] [u,v,w,x]
theorem zEa:u<=w->w<v/\v<=w+x->u<v:=za 0x14828118a8108522a048610026 [] [u,v,w,x]
theorem zEb:u<=x->x+v<w->u+v<w:=za 0x9210528112423a502618026 [] [u,v,w,x]
theorem zEc:v=x->x<u/\u<=x+w->u<=v+w:=za 0x20d00110e8008123a048618466 [] [u,v,w,x]
theorem zEd:x=v->u<=x+w->u<=v+w:=za 0x83400443a002608c66 [] [u,v,w,x]
theorem zEe:x>u+v->x<=w->u+v<w:=za 0x9210528110c261a420a5026 [] [u,v,w,x]
theorem zEf:¬v<x->x<u/\u<=x+w->u<=v+w:=za 0x20d00110e8008123a048638d21a04c6 [] [u,v,w,x]
theorem zEg:a<b+1->a>=b->a=b:=za 0x402004064868905006 [a,b] []
theorem zEh:a<=b-1->0<b->a+1<=b:=za 0x1482800a51401921a8006 [a,b] []
theorem zEi:a<=b->a<b+1:=za 0x24344828008006 [a,b] []
theorem zEj:a<b->a+1<=b+c:=za 0x20d120a002905006 [a,b,c] []
theorem zEk:b<c+1->a+b<=a+c:=za 0x8140828048a890d006 [a,b,c] []
theorem zEl:c<=b->a<c->a<b:=za 0x520a00490500608806 [a,b,c] []
theorem zxn:c<=b->a<c->a<=b:=za 0x1000490500608806 [a,b,c] []
theorem zEm:d<=c->b<d->a+b<a+c:=za 0x81448414a00690d00610c06 [a,b,c,d] []
theorem zEn:a+d<=c->e<=d->b<e->a+b<c:=za 0x9210528022434018640184305006 [a,b,c,d,e] []
theorem zxo:a-e<=c-d->e<=b->a-(b+1)<=c-(d+1):=za 0x247415521a02a00900618aa405406 [a,b,c,d,e] []
theorem zxp:e-b<=c-d->a<e->a-b<=c-(d+1):=za 0x247415420a80890500618aa125406 [a,b,c,d,e] []
theorem zEo:a+d<=c->e<d->f<=e->b<f->a+b<c:=za 0x248414a00a90d006214061a4940184305006 [a,b,c,d,e,f] []
theorem zxB:b-c<=a->c+min a (b-c)<=d->¬d<b:=za 0x1c291d0061883506054018020d406 [a,b,c,d] []
theorem zxC:b+1<=a->¬d<b+1-min a (b+1):=za 0x748680c2434aa454018090d006 [a,b,d] []
theorem zEp:1<=u/\u<=3->u=1\/u=2\/u=3:=za 0x2c0350065480655802048486 [] [u]
theorem zEq:u=5\/u=20->0<u:=za 0x4a281000149006d00ca6 [] [u]
theorem zEr:0<=u->0<=5+u:=za 0x6d10102026 [] [u]
theorem zEs:0<=u->1<=1+u:=za 0x4d12102026 [] [u]
theorem zEt:u<3->1+u<=3:=za 0x2c09a056905026 [] [u]
theorem zEu:u<9943->u<=9942:=za 0x4dad200409b5e4905026 [] [u]
theorem zEv:u<v->u=v->False:=za 0x1c201982905026 [] [u,v]
theorem zEw:0<=u->u<(a:Int)->u.toNat<a:=za 0x48774003290d0260a026 [a] [u]
theorem zEx:b<=a/\c<=d->0<=u/\u<(b:Int)->0<=u/\u<(a:Int):=za 0xca494091012072925024404861880008086 [a,b,c,d] [u]
theorem zEy:b<=c/\d<=a->0<=u/\u<(d:Int)->0<=u/\u<(a:Int):=za 0xca4940910120f29250244048600c0208086 [a,b,c,d] [u]
theorem zxq:1<=a->a<=3->a=1\/a=2\/a=3:=za 0x2c0250045480455800602406 [a] []
theorem zxr:a<400->a<440:=za 0xdc4920a00006424905006 [a] []
theorem zEz:a<440->a+1<500:=za 0x3e924a414a00006e24905006 [a] []
theorem zk2:a<440->a+1<590:=za 0x49d24a414a00006e24905006 [a] []
theorem zEA:a<470->a+1<530:=za 0x42524a414a000075a4905006 [a] []
theorem zEB:a<470->a+1<560:=za 0x46124a414a000075a4905006 [a] []
theorem zrY:a<470->a+1<580:=za 0x48924a414a000075a4905006 [a] []
theorem zxs:a<470->a<480:=za 0xf04920a000075a4905006 [a] []
theorem znL:a<470->a<600:=za 0x12c4920a000075a4905006 [a] []
theorem zEC:a<480->a+1<520:=za 0x41124a414a00007824905006 [a] []
theorem zED:a<480->a+1<580:=za 0x48924a414a00007824905006 [a] []
theorem zEE:a<530->a+1<540:=za 0x43924a414a000084a4905006 [a] []
theorem zEF:a<530->a+1<570:=za 0x47524a414a000084a4905006 [a] []
theorem zEG:a<=1000->a+1<=1000000:=za 0x1e8481248280003e890006 [a] []
theorem zt7:0<((a+1:Nat):Int):=za 0x482994a281 [a] []
theorem zxt:¬((a+1:Nat):Int)=0:=za 0x3a120a6466 [a] []
theorem zEH:¬a+1=0:=za 0x1d0905046 [a] []
theorem zEI:a+(b+1)<=13->a+1+b<=13:=za 0x6c829052800000d9243405006 [a,b] []
theorem zEJ:a+1=b->a<b:=za 0x520a002905046 [a,b] []
theorem zxu:a=b->1<=b->1<=a:=za 0x1200a40608046 [a,b] []
theorem zEK:a<=b->b-a=0->a=b:=za 0x1009000d44608006 [a,b] []
theorem zEL:a<=b->a+1<=b+1:=za 0x24344828008006 [a,b] []
theorem zEM:a<=b->a<=b+1:=za 0x90d00008006 [a,b] []
theorem zEN:b<=50->a<=b->a+1<=1000000:=za 0x1e8481248280080060003290406 [a,b] []
theorem zEO:b<=50->a<=b->a<1000:=za 0x7d1248280080060003290406 [a,b] []
theorem zxv:b<=8->a<b->a+1<=1000000:=za 0x7a1204920a00290500680406 [a,b] []
theorem zEP:(a:Int)+(b:Int)=((a+b:Nat):Int):=za 0x20a643906683 [a,b] []
theorem zEQ:((a:Int)-(b:Int)).toNat=a-b:=za 0x20a8720cd762 [a,b] []
theorem zER:u<v->v<u->a<b:=za 0x148280124740986915026 [a,b] [u,v]
theorem zxw:a+1<=b/\b<a+1+(c-(a+1))->a<b:=za 0x14828048282aa414a243400520a0086 [a,b,c] []
theorem znM:c+1<=a/\a<c+1+(b-(c+1))->a<b:=za 0x14828048a81aa454a241400122a0086 [a,b,c] []
theorem zES:(a:Int)=13->min (a-b) c<=13:=za 0xd90820ae000001b206466 [a,b,c] []
theorem zxx:b<=80/\c<=80->a<=b+c->a<=992:=za 0x7c1200041a0006000509080000a1208086 [a,b,c] []
theorem zET:a+(b+1)<=c+9->a+1+b<=c+9:=za 0x44540a414a0222a243405006 [a,b,c] []
theorem zEU:a+b=c->a+1+b=c+1:=za 0x24540a414a084105046 [a,b,c] []
theorem zEV:a+b=c->a+(b+1)=c+1:=za 0x245448680a084105046 [a,b,c] []
theorem zEW:c+1=b->a<c+1->a<b:=za 0x520a0122a24140182915046 [a,b,c] []
theorem zxy:a<b->b<c->a+1<=b/\b<a+1+(c-(a+1)):=za 0x241415520a5121a002905004124340182905006 [a,b,c] []
theorem zxz:a<c->c<b->a<b:=za 0x1482800a4540184905006 [a,b,c] []
theorem zEX:a<=b+c->b<=80/\c<=80->a<=1000:=za 0x7d120000014242000028482021841a0006 [a,b,c] []
theorem zEY:b<=50->a+c<=b->a<80:=za 0x284920a0022050060003290406 [a,b,c] []
theorem zEZ:b<=50->c+a<=b->a<80:=za 0x284920a0020150060003290406 [a,b,c] []
theorem zE0:b<=8->a+1+(b-(c+1))<=a+9:=za 0x1105122a06a90528080406 [a,b,c] []
theorem zE1:a+(b+c)=b+(a+c):=za 0x8140d041a0282 [a,b,c] []
theorem zE2:(d:Int)<13->(a:Int)=(d:Int)->min (a-b) c<=13:=za 0xd90820ae003c8323300006c923cd026 [a,b,c,d] []
theorem zE3:a=c->b=d->c=1\/d=1->a=1\/b=1:=za 0x24224804548c49108a61844610046 [a,b,c,d] []
theorem zE4:a<=c->b<=d->a+b<=c+d:=za 0xc54082801840610006 [a,b,c,d] []
theorem zE5:b<=50->a<=c+d->c+d<=b->a<=992:=za 0x1f0480008c5401862a00060003290406 [a,b,c,d] []
theorem zE6:d=b->d+a=c->a+b=c:=za 0x820a08401d04608c46 [a,b,c,d] []
theorem zxA:a+b=d+e+1->d+e<=c->a+b<=c+1:=za 0x24540828011074019241d28105046 [a,b,c,d,e] []
theorem zE7:a<=d->d=e->e=b+c->a<=b+c:=za 0x83400041a104620c4618006 [a,b,c,d,e] []
theorem zE8:1<=u/\u<=100000000->-1000000000<=u:=za 0x1dcd65004f41000000005f5e1009802048486 [] [u]
theorem zE9:1<=u/\u<=100000000->u<=1000000000:=za 0x1dcd65004c01000000005f5e1009802048486 [] [u]
theorem zFa:1<=u/\u<=3->-1000000000<=u:=za 0x1dcd65004f415802048486 [] [u]
theorem zFb:1<=u/\u<=3->u<=1000000000:=za 0x1dcd65004c015802048486 [] [u]
theorem zFc:u=1\/u=-1->-1000000000<=u:=za 0x3b9aca009e829d006900ca6 [] [u]
theorem zFd:u=1\/u=-1->u<=1000000000:=za 0x3b9aca0098029d006900ca6 [] [u]
theorem zFe:0<=u->u<2->u=0\/u=1:=za 0x900d00195490502602026 [] [u]
theorem zFf:w=5\/w=20->0<=u/\u<=9942->0<=v->v<w->0<=u+1*v/\u+1*v<=9999:=za 0x1387c820000360502100001b0288090490d0260a026026d69002040486000149086d10ca6 [] [u,v,w]
theorem zFg:w=5\/w=20->0<=u/\u<=9942->0<=v->v<w->0<=u+2*v/\u+2*v<=9999:=za 0x1387c820000560502100002b0288090490d0260a026026d69002040486000149086d10ca6 [] [u,v,w]
theorem zFh:w=5\/w=20->0<=u/\u<=9942->0<=v->v<w->0<=u+3*v/\u+3*v<=9999:=za 0x1387c820000760502100003b0288090490d0260a026026d69002040486000149086d10ca6 [] [u,v,w]
theorem zFi:(a:Int)<=700000000->1000000000-(a:Int)≠0:=za 0x740320000000773594013a8cc000000053724e01306426 [a] []
theorem zFj:(a:Int)<=700000000->-(1000000000-(a:Int))≠0:=za 0xe80640000000ee6b280275d0cc000000053724e01306426 [a] []
theorem zFk:(a:Int)<=700000000->-(1000000000-(a:Int))<=1000000000:=za 0x3b9aca0098320000000773594013ae82000000053724e01306426 [a] []
theorem zFl:(a:Int)<=700000000->-1000000000<=1000000000-(a:Int):=za 0x640000000ee6b28027500000003b9aca009e82000000053724e01306426 [a] []
theorem zFm:a<=8->0+73*a<=584:=za 0x9224000049b228080006 [a] []
theorem zFn:1000000000-(a:Int)<=1000000000:=za 0xee6b280260c80000001dcd65004ea1 [a] []
theorem zFo : -1000000000<=-(1000000000-(a:Int)):=za 0x640000000ee6b280275d00000001dcd65004f41 [a] []
theorem zFp:b<=8->a+1+9*(b-(c+1))<=a+73:=za 0x12640a24540d400026c90528080406 [a,b,c] []
theorem zFq:8*a<=512->0+8*a<=512:=za 0x10048000011645000040120000045806 [a] []
theorem zFr:a<=1000->0+6*a<=6000:=za 0x5dc24000006b2280003e890006 [a] []
theorem zFs:a+3000<b->a+1+1+2000<b:=za 0x5200fa124a414a52800a402ee240a5006 [a,b] []
theorem zFt:b-a=0->a<=b->a=b:=za 0x100820019000d446 [a,b] []
theorem zFu:a<=20+8*b->b<=600->a+3000<9900:=za 0x9ab24900bb89029400012c482030400022c000292a0006 [a,b] []
theorem zFv:a+6*(c+1)<=6000->b<=6->a+b+6*c<=6000:=za 0x2ee121000035820a500e080c02ee1248a80000d605006 [a,b,c] []
theorem zFw:a+6*(c+1)<=6000->b<=6->a+b<=1000000:=za 0x3d0902410500e080c02ee1248a80000d605006 [a,b,c] []
theorem zFx:b-a=c+1->a+1<=b:=za 0x14828048a800d446 [a,b,c] []
theorem zFy:c+4096*(b+1)<=20480->a<=c+4096->a+4096*b<=20480:=za 0xa001208080058140008004854000c0a0012486802001615006 [a,b,c] []
theorem zFz:c<b->a<=c->a<b:=za 0x520a00400182915006 [a,b,c] []
theorem zFA:c<=8->a+8*(d+1)<=512->b<=c->a+b<=1000000:=za 0x3d09024105002080c00401248e80001160500680806 [a,b,c,d] []
theorem zFB:d=b->a<d->a<b+c:=za 0x20d120a00690500608c46 [a,b,c,d] []
theorem zFC:d<=8->a+8*(c+1)<=512->b<=d->a+b+8*c<=512:=za 0x40121000045820a5003080c00401248a80001160500680c06 [a,b,c,d] []
theorem zu4:0<=u->0<=9+u:=za 0x8d10102026 [] [u]
theorem zu5:u<5->(9+u).toNat<=13:=za 0xd90234d81a905026 [] [u]
theorem zu6:a<=13->u=0->0<=u+40*(a:Int)/\u+40*(a:Int)<=9999:=za 0x1387c81900028b0681064000a2c1a2024404660000d90006 [a] [u]
theorem zu7:a<=13->u=5000->0<=u+40*(a:Int)/\u+40*(a:Int)<=9999:=za 0x1387c81900028b0681064000a2c1a202401388904660000d90006 [a] [u]
theorem zu8:a=b+1->u<(a:Int)->u.toNat<a:=za 0x122dd000ca45409921a0046 [a,b] [u]
theorem zu9:a<460->a<600:=za 0x12c4920a00007324905006 [a] []
theorem zst:a<470->a+1+1<590:=za 0x127492948294a000075a4905006 [a] []
theorem zva:a<470->a+1<540:=za 0x43924a414a000075a4905006 [a] []
theorem zvb:a<=1000->0+3*a<=3000:=za 0x2ee24000003b2280003e890006 [a] []
theorem zvc:a<=13->0-1000000000<=1+(a:Int)/\1+(a:Int)<=1000000000/\1+(a:Int)≠0:=za 0x3a0194d06600000003b9aca0098329a0480ca680000000773594013454240000d90006 [a] []
theorem zvd:a<=13->(a:Int)<=1000000000:=za 0x3b9aca00983210000d90006 [a] []
theorem zve:a<=13->a<=1000000:=za 0x7a12048000000d90006 [a] []
theorem zvf:a<=2->a+1<=100:=za 0xc924828050006 [a] []
theorem zsu : -1000000000<=(a:Int):=za 0xc80000001dcd65004f41 [a] []
theorem zvg:a+(b+1)<570->a+1+b<570:=za 0x11d492148294a00008ea4948680a5006 [a,b] []
theorem zvh:a+(b+1)<=13->13+a<=50:=za 0x652000006ca800000d9243405006 [a,b] []
theorem zvi:a+b<570->a+1<590:=za 0x1274929052800023a92420a5006 [a,b] []
theorem zvj:a+b<570->a<600:=za 0x4b12482800023a92420a5006 [a,b] []
theorem zvk:a+b<=0->a=0:=za 0x80090105006 [a,b] []
theorem zvl:b+a<=0->a=0:=za 0x8009000d006 [a,b] []
theorem zvm:a<550->b<=8->a+1+b<570:=za 0x11d492148294a02010180089a4905006 [a,b] []
theorem zvn:b<=13->a<b+0->a<=13:=za 0x6c80040689050060000d90406 [a,b] []
theorem zvo:a+3*(c+1)<=3000->b<=3->a+b+3*c<=3000:=za 0x17712100001d820a500b080c01771248a800007605006 [a,b,c] []
theorem zvp:a+3*(c+1)<=3000->b<=3->a+b<=1000000:=za 0x3d0902410500b080c01771248a800007605006 [a,b,c] []
theorem zvq:a+(b+1)=c->a+1+b=c:=za 0x829052821243405046 [a,b,c] []
theorem zvr:a+(c+1)<570->b<=c->a+1+b<570:=za 0x11d492148294a0041018008ea4948a80a5006 [a,b,c] []
theorem zvs:b<=13->a+(c+1)=b->(a:Int)<=1000000000:=za 0x3b9aca00983210a454050460000d90406 [a,b,c] []
theorem zvt:b<=13->a+(c+1)=b->a<=13:=za 0x6c8000a454050460000d90406 [a,b,c] []
theorem zvu:a+b=c->d+a=c->d<=b-1->0<b->False:=za 0x70a51401921a8c06100741184105046 [a,b,c,d] []
theorem zvv:c+b=d->a+c=d->a=b:=za 0x402188141186115046 [a,b,c,d] []
theorem zvw:b<=13->c+(d+1)=b->a=c->a<80:=za 0xa1248280100460a474150460000d90406 [a,b,c,d] []
theorem zvx:a+4096*(b+1)<=20480->a+4096<=90000:=za 0x57e42402001205000a0012486802001605006 [a,b] []
theorem zvy:a+584*(b+1)<=341056->a+584<=400000:=za 0x186a0240049120500a68812486800491605006 [a,b] []
theorem zvz:a+1*(b+1)<=c->a+1+1*b<=c:=za 0x2080000d920a5002486800003605006 [a,b,c] []
theorem zvA:a+1*(b+1)<=c->a+1*b<=c:=za 0x8200003605002486800003605006 [a,b,c] []
theorem zvB:2<=c->a+c=b->(a:Int)+1<(b:Int):=za 0x72948334a04220504612806 [a,b,c] []
theorem zvC:a<551->c+1<=8->b<=c->a+b<570:=za 0x11d49210528010406824540180089e4905006 [a,b,c] []
theorem zvD:b<=1000->c<=1000->a=b+c->a<=100000:=za 0x30d41200041a0046003e890806003e890406 [a,b,c] []
theorem zvE:b<=100000->a+1*(c+1)<=b->a+1<=1000000:=za 0x3d0902490500148a800003605006186a090406 [a,b,c] []
theorem zvF:c<=90000->a+(d+b)<=c->a+b<=100000:=za 0x30d41208280104740500615f9090806 [a,b,c,d] []
theorem zvG:a+(c+e)<=d->b<=e->a+b+c<=d:=za 0xc4105280204061905405006 [a,b,c,d,e] []
end
section
open La
variable{a b c d e f g i j k m o:Nat}{u v w x y z s t r:Int}
theorem zvH:a+73*(b+1)<=584->a<=600:=za 0x2589000004912486800093605006 [a,b] []
theorem zvI:a+73*(c+1)<=584->b<=72->a+(b+1)+73*c<=584:=za 0x12448400093648680a500000912080c00491248a800093605006 [a,b,c] []
theorem zvJ:b<=600->a+9*(c+1)<=b+73->a<=900:=za 0xe1240000024c83448a8000136050060025890406 [a,b,c] []
theorem zvK:b<=900->a+(c+1)<=b+9->a<1000:=za 0x1f44920a0221a2454050060038490406 [a,b,c] []
theorem zvL:a+9*(c+1)<=d+73->b<=8->a+(b+1)+9*c<=d+73:=za 0x24c874100004d921a029404020300024c87448a800013605006 [a,b,c,d] []
end
noncomputable def strT:List Str:=["bank","book","","span","rows","ticked","closed","entry","many","other","made","1","banks","Book","bark","boot","ook","matches","barred","group","days","scale","base","seen","step","old"]
noncomputable def zao:Nat:=26
noncomputable def zy(n:Nat):Str:=strT.getD n ""
theorem zkQ:strT.Nodup:=by decide +kernel
theorem zrt:(strT.all λs=>PyData.strOk s)=true:=by decide +kernel
theorem zbx{n:Nat}(h:n<zao):strT[n]? = some (zy n):=by
 have h':n<strT.length:=h;unfold zy;rw[fS,fU h'];rfl
theorem ki{n m:Nat}(hn:n<zao)(hm:m<zao)(h:zy n=zy m):n=m:=by
 have h1:=zbx hn;have h2:=zbx hm;rw[<-h] at h2;exact(List.getElem?_inj (show n<strT.length from hn) zkQ).mp (h1.trans h2.symm)
theorem zhi(b:Bool):b.toNat<zao:=by cases b<;>decide
theorem side_inj{a b:Bool}:zy a.toNat=zy b.toNat↔a=b:=by
 refine⟨λh=>?_,λh=>by rw[h]⟩;have h2:a.toNat=b.toNat:=ki (zhi a) (zhi b) h;cases a<;>cases b<;>first|rfl|cases h2
theorem zi3{n:Nat}(h:n<zao):PyData.strOk (zy n)=true:=fAM.mp zrt _ (fAB (zbx h))
inductive AV where
 | none
 | bool (b:Bool)
 | int (i:Int)
 | str (n:Nat)
 | tup (xs:List AV)
 | lst (xs:List AV)
 | ref (a:Addr)
 | rng (lo hi:Int)
 | exc (c:Addr)
inductive AO where
 | list (xs:List AV)
 | frz (xs:List AV)
 | tdict (kvs:List (List (Bool×Int)×AV))
 | inst (c:Addr) (d:Addr)
 | idict (fs:List (Nat×AV))
noncomputable abbrev zd:=Bool×Int
noncomputable def zI(m:zd):AV:=.tup [.str m.1.toNat,.int m.2]
noncomputable def mkH(w:World)(m:zd):Int:=reduceHash (Builtin.Tuple.tupleHashOf [hashStr w (zy m.1.toNat),hashInt m.2])
noncomputable abbrev zC(ms:List zd):AV:=.tup (ms.map zI)
noncomputable def zuR(w:World)(ms:List zd):Int:=reduceHash (Builtin.Tuple.tupleHashOf (ms.map (mkH w)))
noncomputable abbrev AHeap:=Addr->Option AO
noncomputable def AHeap.set(Y:AHeap)(a:Addr)(o:AO):AHeap:=λb=>if b=a then some o else Y b
noncomputable def zS(vs:List Value)(n:Nat):Obj:={ cls:=.type "list",data:=.seq vs.toArray n }
noncomputable def zeL(lo hi:Int)(t u v:Tok):Obj:={ cls:=.type "range",data:=.fields #[.int lo t,.int hi u,.int 1 v] }
noncomputable def exO(c:Addr)(vs:Array Value):Obj:={ cls:=.ref c,dict:=none,data:=.fields vs,slots:=#[] }
mutual
inductive RepV(Y:AHeap)(h:Heap):AV->Value->Prop
 | none:RepV Y h .none .none
 | bool (b:Bool):RepV Y h (.bool b) (.bool b)
 | int (i:Int) (t:Tok):RepV Y h (.int i) (.int i t)
 | str {n:Nat} (hn:n<zao) (t:Tok):RepV Y h (.str n) (.str (zy n) t)
 | tup {xs:List AV} {a:Addr} {vs:List Value}:xs.length<=1000000->IsTup h a vs.toArray->RepVs Y h xs vs->RepV Y h (.tup xs) (.ref a)
 | lst {xs:List AV} {a:Addr}:Y a=some (.frz xs)->RepV Y h (.lst xs) (.ref a)
 | ref (a:Addr):RepV Y h (.ref a) (.ref a)
 | rng {lo hi:Int} {a:Addr} {t u v:Tok}:h.get? a=some (zeL lo hi t u v)->RepV Y h (.rng lo hi) (.ref a)
 | exc {a c:Addr} {vs:Array Value}:h.get? a=some (exO c vs)->RepV Y h (.exc c) (.ref a)
inductive RepVs(Y:AHeap)(h:Heap):List AV->List Value->Prop
 | nil:RepVs Y h [] []
 | cons {x:AV} {xs:List AV} {v:Value} {vs:List Value}:RepV Y h x v->RepVs Y h xs vs->RepVs Y h (x::xs) (v::vs)
end
theorem RepV.wD{Y:AHeap}{h:Heap}{i:Int}{v:Value}(r:RepV Y h (.int i) v):∃t,v = .int i t:=by cases r;exact⟨_,rfl⟩
theorem RepV.wN{Y:AHeap}{h:Heap}{b:Bool}{v:Value}(r:RepV Y h (.bool b) v):v = .bool b:=by cases r;rfl
theorem RepV.wK{Y:AHeap}{h:Heap}{v:Value}(r:RepV Y h .none v):v = .none:=by cases r;rfl
theorem RepV.wM{Y:AHeap}{h:Heap}{a:Addr}{v:Value}(r:RepV Y h (.ref a) v):v = .ref a:=by cases r;rfl
theorem RepV.wI{Y:AHeap}{h:Heap}{n:Nat}{v:Value}(r:RepV Y h (.str n) v):∃t,v = .str (zy n) t/\n<zao:=by cases r with|str hn t=>exact zc t rfl hn
theorem RepV.wH{Y:AHeap}{h:Heap}{xs:List AV}{v:Value}(r:RepV Y h (.tup xs) v):∃a vs,v = .ref a/\xs.length<=1000000/\IsTup h a (List.toArray vs)/\RepVs Y h xs vs:=by cases r with|tup hl ht rs=>exact zq _ _ rfl hl ht rs
theorem RepV.wQ{Y:AHeap}{h:Heap}{xs:List AV}{v:Value}(r:RepV Y h (.lst xs) v):∃a,v = .ref a/\Y a=some (.frz xs):=by cases r with|lst e=>exact zc _ rfl e
theorem RepVs.wG{Y:AHeap}{h:Heap}{vs:List Value}(r:RepVs Y h [] vs):vs=[]:=by cases r;rfl
theorem RepVs.wF{Y:AHeap}{h:Heap}{x:AV}{xs:List AV}{vs:List Value}(r:RepVs Y h (x::xs) vs):∃u us,vs=u::us/\RepV Y h x u/\RepVs Y h xs us:=by cases r with|cons a r=>exact zN _ _ rfl a r
def qL(o:Obj):Prop:=(o.cls = .type "tuple"/\∃xs n,o.data = .seq xs n)\/(o.cls = .type "range"/\∃vs,o.data = .fields vs)\/∃c vs,o.cls = .ref c/\o.data = .fields vs
def zxD(o o':Obj):Prop:=o'=o\/∃c vs vs',o=exO c vs/\o'=exO c vs'
structure KeepV(Y:AHeap)(h:Heap)(Y':AHeap)(h':Heap):Prop where
 obj:∀b o,h.get? b=some o->qL o->∃o',h'.get? b=some o'/\zxD o o'
 frz:∀b xs,Y b=some (.frz xs)->Y' b=some (.frz xs)
theorem KeepV.mk'{Y:AHeap}{h h':Heap}(k:∀b o,h.get? b=some o->qL o->h'.get? b=some o):KeepV Y h Y h':=⟨λb o e st=>(zc o (k b o e st) (.inl rfl)),λ_ _ e=>e⟩
theorem KeepV.ext{Y:AHeap}{h h':Heap}(k:∀b o,h.get? b=some o->h'.get? b=some o):KeepV Y h Y h':=.mk' λb o e _=>k b o e
theorem KeepV.push{Y:AHeap}{h:Heap}(o:Obj):KeepV Y h Y (h.push o):=.ext λ_ _ e=>Heap.get?_push_of_some _ e
theorem KeepV.tup{Y Y':AHeap}{h h':Heap}(k:KeepV Y h Y' h'){a:Addr}{vs:Array Value}(ht:IsTup h a vs):IsTup h' a vs:=by
 refine jM ht λo ho hc n hd=>?_;obtain⟨o',ho',e|⟨c,_,_,e,_⟩⟩:=k.obj _ _ ho (.inl (zsR hc _ n hd))
 .subst e;exact qn _ ho' hc n hd
 .subst e;cases hc
theorem KeepV.rng{Y Y':AHeap}{h h':Heap}(k:KeepV Y h Y' h'){a:Addr}{lo hi:Int}{t u v:Tok}(ht:h.get? a=some (zeL lo hi t u v)):h'.get? a=some (zeL lo hi t u v):=by
 obtain⟨o',ho',e|⟨c,_,_,e,_⟩⟩:=k.obj _ _ ht (.inr (.inl (zuw rfl _ rfl)))
 .subst e;exact ho'
 .cases e
theorem RepV.mono{Y Y':AHeap}{h h':Heap}(k:KeepV Y h Y' h'){x:AV}{v:Value}(r:RepV Y h x v):RepV Y' h' x v:=by
 refine RepV.rec (motive_1:=λx v _=>RepV Y' h' x v) (motive_2:=λxs vs _=>RepVs Y' h' xs vs) .none .bool .int (λhn t=>.str hn t) ?_ ?_ .ref ?_ ?_ .nil ?_ r
 .intro xs a vs hl ht _ r;exact .tup hl (k.tup ht) r
 .intro xs a e;exact .lst (k.frz _ _ e)
 .intro lo hi a t u v ho;exact .rng (k.rng ho)
 .intro a c vs ho;obtain⟨o',ho',e|⟨c',_,vs',e,e'⟩⟩:=k.obj _ _ ho (.inr (.inr (zaA _ _ rfl rfl)))
  .subst e;exact .exc ho'
  .cases e;subst e';exact .exc ho'
 .intro x xs v vs _ _ a r;exact .cons a r
theorem RepVs.mono{Y Y':AHeap}{h h':Heap}(k:KeepV Y h Y' h'){xs:List AV}{vs:List Value}(r:RepVs Y h xs vs):RepVs Y' h' xs vs:=by
 induction xs generalizing vs with
 | nil=>obtain rfl:=RepVs.wG r;exact .nil
 | cons x xs ih=>cases r with|cons a r=>exact .cons (a.mono k) (ih r)
theorem RepVs.length{Y:AHeap}{h:Heap}{xs:List AV}{vs:List Value}(r:RepVs Y h xs vs):xs.length=vs.length:=by
 induction xs generalizing vs with
 | nil=>obtain rfl:=RepVs.wG r;rfl
 | cons x xs ih=>cases r with|cons a r=>rw[fH,fH,ih r]
theorem RepVs.append{Y:AHeap}{h:Heap}{xs:List AV}{vs:List Value}{ys:List AV}{us:List Value}(q:RepVs Y h xs vs)(r:RepVs Y h ys us):RepVs Y h (xs++ys) (vs++us):=by
 induction xs generalizing vs with
 | nil=>obtain rfl:=RepVs.wG q;exact r
 | cons x xs ih=>cases q with|cons a q=>exact .cons a (ih q)
theorem RepVs.get{Y:AHeap}{h:Heap}{xs:List AV}{vs:List Value}(r:RepVs Y h xs vs):∀{i:Nat} {x:AV},xs[i]? = some x->∃v,vs[i]? = some v/\RepV Y h x v:=by
 induction xs generalizing vs with
 | nil=>intro i x e;cases e
 | cons y xs ih=>
  obtain⟨_,_,rfl,a,r⟩:=RepVs.wF r;intro i x e;cases i with
  | zero=>cases e;exact zc _ rfl a
  | succ i=>rw[fAS] at e;exact ih r e
theorem RepVs.take{Y:AHeap}{h:Heap}{xs:List AV}{vs:List Value}(r:RepVs Y h xs vs):∀n,RepVs Y h (xs.take n) (vs.take n):=by
 induction xs generalizing vs with
 | nil=>intro n;obtain rfl:=RepVs.wG r;rw[List.take_nil,List.take_nil];exact .nil
 | cons y xs ih=>
  obtain⟨_,_,rfl,a,r⟩:=RepVs.wF r;intro n;cases n with
  | zero=>exact .nil
  | succ n=>exact .cons a (ih r n)
theorem RepVs.drop{Y:AHeap}{h:Heap}{xs:List AV}{vs:List Value}(r:RepVs Y h xs vs):∀n,RepVs Y h (xs.drop n) (vs.drop n):=by
 induction xs generalizing vs with
 | nil=>intro n;obtain rfl:=RepVs.wG r;rw[List.drop_nil,List.drop_nil];exact .nil
 | cons y xs ih=>
  obtain⟨_,_,rfl,a,r⟩:=RepVs.wF r;intro n;cases n with
  | zero=>exact .cons a r
  | succ n=>exact ih r n
structure Cx where
 prog:Hj
 w:World
 h₀:Heap
 os:OsState
 mg:Str->Option Value
 mb:Str->Option Value
 fr:List Addr
 top:Option Env
noncomputable def Cx.push(X:Cx)(L:Env):Cx:=⟨X.prog,X.w,X.h₀,X.os,X.mg,X.mb,L.locals::X.fr,some L⟩
noncomputable abbrev Cx.M(X:Cx):Model:=model X.prog X.w
structure Cx.Ok(X:Cx):Prop where
 g:X.h₀.Ns Hm X.mg
 b:X.h₀.Ns builtinsNs X.mb
 nolimit:X.h₀.NoLimit
inductive RepT(w:World)(Y:AHeap)(h:Heap):List (List zd×AV)->List DictEntry->Prop
 | nil:RepT w Y h [] []
 | cons {k:List zd} {x:AV} {r:List (List zd×AV)} {e:DictEntry} {es:List DictEntry}:RepV Y h (zC k) e.key->RepV Y h x e.val->e.hash=zuR w k->RepT w Y h r es->RepT w Y h ((k,x)::r) (e::es)
theorem RepT.mono{w:World}{Y Y':AHeap}{h h':Heap}(k:KeepV Y h Y' h'){kvs:List (List zd×AV)}{es:List DictEntry}(r:RepT w Y h kvs es):RepT w Y' h' kvs es:=by
 induction r with
 | nil=>exact .nil
 | cons a b c _ ih=>exact .cons (a.mono k) (b.mono k) c ih
inductive SX(Y:AHeap)(h:Heap):List (Str×Value)->List (Nat×AV)->Prop
 | nil:SX Y h [] []
 | cons {k:Nat} {x:AV} {v:Value} {kvs:List (Str×Value)} {fs:List (Nat×AV)}:k<zao->RepV Y h x v->SX Y h kvs fs->SX Y h ((zy k,v)::kvs) ((k,x)::fs)
theorem SX.mono{Y Y':AHeap}{h h':Heap}(k:KeepV Y h Y' h'){kvs:List (Str×Value)}{fs:List (Nat×AV)}(r:SX Y h kvs fs):SX Y' h' kvs fs:=by
 induction r with
 | nil=>exact .nil
 | cons hk a _ ih=>exact .cons hk (a.mono k) ih
noncomputable def RepA(X:Cx)(Y:AHeap)(h:Heap)(a:Addr):AO->Prop
 | .list xs=>∃vs n,h.get? a=some (zS vs n)/\RepVs Y h xs vs/\xs.length<=1000000
 | .frz xs=>∃vs,h.IsList a vs.toArray/\RepVs Y h xs vs/\xs.length<=1000000
 | .tdict kvs=>∃es n,h.get? a=some { cls:=.type "dict",data:=.dict es n }/\RepT X.w Y h kvs es.toList/\(kvs.map (·.1)).Nodup/\kvs.length<=1000000/\(a==sysModules)=false
 | .inst c d=>h.get? a=some { cls:=.ref c,dict:=some d,data:=.plain }
 | .idict fs=>∃kvs,h.DictOf (strKind X.prog X.w) a kvs/\SX Y h kvs fs/\fs.length<=100/\(a==sysModules)=false
theorem RepA.mono{X:Cx}{Y Y':AHeap}{h h':Heap}{a:Addr}{o:AO}(k:KeepV Y h Y' h')(e:∀o,h.get? a=some o->h'.get? a=some o)(r:RepA X Y h a o):RepA X Y' h' a o:=by
 cases o with
 | list xs=>refine zm r λvs n h1 h2 hl=>?_;exact⟨vs,n,e _ h1,h2.mono k,hl⟩
 | frz xs=>refine zh r λvs h8_1 h2 hl=>?_;refine zb h8_1 λo h1 h3=>?_;exact⟨vs,(zc o (e _ h1) h3),h2.mono k,hl⟩
 | tdict kvs=>refine zm r λes n h1 h2 h3=>?_;exact⟨es,n,e _ h1,h2.mono k,h3⟩
 | inst c d=>exact e _ r
 | idict fs=>refine zh r λkvs h10_1 h2 h3=>?_;refine jh h10_1 λo es ep h1 h4=>?_;exact zr kvs (qW o es ep (e _ h1) h4) (h2.mono k) h3
theorem RepA.some{X:Cx}{Y:AHeap}{h:Heap}{a:Addr}{o:AO}(r:RepA X Y h a o):∃ob,h.get? a=some ob/\¬qL ob:=by
 have no:∀{ob:Obj} {t:String},ob.cls = .type t->t≠"tuple"->t≠"range"->¬qL ob:=by
  rintro ob t hc h1 h2 (⟨h,_⟩|⟨h,_⟩|⟨c,vs,h,_⟩)
  .rw[hc] at h;cases h;exact h1 rfl
  .rw[hc] at h;cases h;exact h2 rfl
  .rw[hc] at h;cases h
 cases o with
 | list xs=>refine js r λvs n h1 _=>?_;exact⟨_,h1,no (t:="list") rfl (by decide) (by decide)⟩
 | frz xs=>refine zb r λvs h12_1 _=>?_;refine zh h12_1 λo h1 hc _=>?_;exact⟨_,h1,no hc (by decide) (by decide)⟩
 | tdict kvs=>refine js r λes n h1 _=>?_;exact⟨_,h1,no (t:="dict") rfl (by decide) (by decide)⟩
 | inst c d=>
  refine zc _ r ?_;rintro(⟨h,_⟩|⟨h,_⟩|⟨c,vs,_,h⟩)
  .cases h
  .cases h
  .cases h
 | idict fs=>refine zb r λkvs h14_1 _=>?_;refine jt h14_1 λo es ep h1 hx _=>?_;exact zc _ h1 (no (t:="dict") hx.1 (by decide) (by decide))
noncomputable def AO.ro:AO->Bool
 | .frz _=>true
 | _=>false
def IsD(h:Heap)(b:Addr):Prop:=∃o es n,h.get? b=some o/\o.data = .dict es n
structure At(X:Cx)(Y:AHeap)(s:Shared):Prop where
 keep:∀b o,X.h₀.get? b=some o->s.heap.get? b=some o
 rep:∀a o,Y a=some o->RepA X Y s.heap a o
 own:∀a o,Y a=some o->o.ro=false->X.h₀.get? a=none
 gens:s.gens = #[]
 os:s.os=X.os
 ff:∀L∈X.fr,Y L=none/\IsD s.heap L
theorem At.lt{X:Cx}{Y:AHeap}{s:Shared}(a:At X Y s){b:Addr}{o:AO}(e:Y b=some o):b<s.heap.objs.size:=
 let ⟨_,h,_⟩:=(a.rep b o e).some;Heap.lt_size h
theorem At.none_of_size{X:Cx}{Y:AHeap}{s:Shared}(a:At X Y s){b:Addr}(e:s.heap.objs.size<=b):Y b=none:=by
 cases h:Y b with
 | none=>rfl
 | some o=>exact absurd (a.lt h) (pQ.mpr e)
theorem At.stays{X:Cx}{Y:AHeap}{s:Shared}(a:At X Y s){b:Addr}{o:Obj}(e:s.heap.get? b=some o)(h:qL o):Y b=none:=by
 cases hs:Y b with
 | none=>rfl
 | some ao=>
  refine zb ((a.rep b ao hs).some) λob h1 h2=>?_;rw[e] at h1;obtain rfl:=Hy h1;exact absurd h h2
structure Step(B:Addr->Prop)(Y:AHeap)(s:Shared)(Y':AHeap)(s':Shared):Prop where
 keep:∀b o,s.heap.get? b=some o->Y b=none->¬B b->(∀es n,o.data≠.dict es n)->s'.heap.get? b=some o
 keepD:∀b o,s.heap.get? b=some o->Y b=none->¬B b->∃sl,s'.heap.get? b=some { o with slots:=sl }
 fresh:∀b,Y' b≠none->Y b=none->s.heap.objs.size<=b
 size:s.heap.objs.size<=s'.heap.objs.size
 frz:∀b xs,Y b=some (.frz xs)->Y' b=some (.frz xs)
theorem Step.mk'{B:Addr->Prop}{Y Y':AHeap}{s s':Shared}(keep:∀b o,s.heap.get? b=some o->Y b=none->¬B b->s'.heap.get? b=some o)(fresh:∀b,Y' b≠none->Y b=none->s.heap.objs.size<=b)(size:s.heap.objs.size<=s'.heap.objs.size)
  (frz:∀b xs,Y b=some (.frz xs)->Y' b=some (.frz xs)):Step B Y s Y' s':=⟨λb o e h1 h2 _=>keep b o e h1 h2,λb o e h1 h2=>⟨o.slots,keep b o e h1 h2⟩,fresh,size,frz⟩
theorem Step.same{B:Addr->Prop}{Y:AHeap}{s s':Shared}(keep:∀b o,s.heap.get? b=some o->¬B b->s'.heap.get? b=some o)(size:s.heap.objs.size<=s'.heap.objs.size):Step B Y s Y s':=.mk' (λb o e _ h=>keep b o e h) (λ_ h1 h2=>absurd h2 h1) size λ_ _ e=>e
def E0:Addr->Prop:=λ_=>False
theorem Step.refl(B:Addr->Prop)(Y:AHeap)(s:Shared):Step B Y s Y s:=.same (λ_ _ e _=>e) (fN _)
theorem Step.gone{B:Addr->Prop}{Y Y':AHeap}{s s':Shared}(x:Step B Y s Y' s'){b:Addr}{o:Obj}(e:s.heap.get? b=some o)(h:Y b=none):Y' b=none:=by
 cases h':Y' b with
 | none=>rfl
 | some _=>exact absurd (x.fresh b (by rw[h'];simp) h) (fDG.mpr (Heap.lt_size e))
theorem Step.trans{B:Addr->Prop}{Y Y' Y'':AHeap}{s s' s'':Shared}(x:Step B Y s Y' s')(y:Step B Y' s' Y'' s''):Step B Y s Y'' s'' where
 keep:=λb o e h1 h2 h3=>y.keep b o (x.keep b o e h1 h2 h3) (x.gone e h1) h2 h3
 keepD:=λb o e h1 h2=>by
  obtain⟨sl,e'⟩:=x.keepD b o e h1 h2;obtain⟨sl',e''⟩:=y.keepD b _ e' (x.gone e h1) h2;exact⟨sl',e''⟩
 fresh:=λb h1 h2=>by
  cases h:Y' b with
  | none=>exact fE x.size (y.fresh b h1 h)
  | some _=>exact x.fresh b (by rw[h];simp) h2
 size:=fE x.size y.size
 frz:=λb xs e=>y.frz b xs (x.frz b xs e)
theorem Step.weaken{B B':Addr->Prop}{Y Y':AHeap}{s s':Shared}(x:Step B Y s Y' s')(h:∀b,B b->B' b):Step B' Y s Y' s':=
 ⟨λb o e h1 h2 h3=>x.keep b o e h1 (λq=>h2 (h b q)) h3,λb o e h1 h2=>x.keepD b o e h1 λq=>h2 (h b q),x.fresh,x.size,x.frz⟩
theorem Step.drop{B B':Addr->Prop}{Y Y':AHeap}{s s':Shared}(x:Step B' Y s Y' s')(h:∀b,B' b->B b\/s.heap.objs.size<=b):Step B Y s Y' s':=by
 have no:∀b o,s.heap.get? b=some o->¬B b->¬B' b:=λb o e h2 q=>(h b q).elim h2 λq'=>absurd (Heap.lt_size e) (pQ.mpr q');exact⟨λb o e h1 h2 h3=>x.keep b o e h1 (no b o e h2) h3,λb o e h1 h2=>x.keepD b o e h1 (no b o e h2),x.fresh,x.size,x.frz⟩
theorem zpU{o:Obj}(h:qL o)(es:Array DictEntry)(n:Nat):o.data≠.dict es n:=λe=>by
 rcases h with⟨_,_,_,h⟩|⟨_,_,h⟩|⟨_,_,_,h⟩<;>(rw[e] at h;cases h)
def NoStay(B:Addr->Prop)(h:Heap):Prop:=∀b o,B b->h.get? b=some o->¬qL o
theorem NoStay.e0{h:Heap}:NoStay E0 h:=λ_ _ h=>h.elim
theorem Step.keepV{X:Cx}{B:Addr->Prop}{Y Y':AHeap}{s s':Shared}(x:Step B Y s Y' s')(a:At X Y s)(n:NoStay B s.heap):KeepV Y s.heap Y' s'.heap:=
 ⟨λb o e h=>(zc o (x.keep b o e (a.stays e h) (λq=>n b o q e h) (zpU h)) (.inl rfl)),x.frz⟩
theorem Step.keepV0{X:Cx}{Y Y':AHeap}{s s':Shared}(x:Step E0 Y s Y' s')(a:At X Y s):KeepV Y s.heap Y' s'.heap:=x.keepV a .e0
theorem AHeap.wA(Y:AHeap)(a:Addr)(o:AO):Y.set a o a=some o:=by simp[AHeap.set]
theorem AHeap.wB(Y:AHeap){a b:Addr}(o:AO)(h:b≠a):Y.set a o b=Y b:=by simp[AHeap.set,h]
section
variable{X:Cx}{Y Y':AHeap}{s s':Shared}
theorem IsD.kept{h h':Heap}{b:Addr}(x:IsD h b)(k:∀o,h.get? b=some o->h'.get? b=some o):IsD h' b:=by
 refine jh x λo es n e d=>?_;exact qW o es n (k o e) d
theorem At.ffk(a:At X Y s){h':Heap}(k:∀b o,s.heap.get? b=some o->h'.get? b=some o):∀L∈X.fr,Y L=none/\IsD h' L:=λL hL=>⟨(a.ff L hL).1,(a.ff L hL).2.kept λo e=>k L o e⟩
theorem At.toks(a:At X Y s)(t:Nat):At X Y { s with toks:=t }:=⟨a.keep,a.rep,a.own,a.gens,a.os,a.ff⟩
theorem Step.toks{B:Addr->Prop}(Y:AHeap)(s:Shared)(t:Nat):Step B Y s Y { s with toks:=t }:=.same (λ_ _ e _=>e) (fN _)
theorem At.push(a:At X Y s)(o:Obj)(t:Nat):At X Y { s with heap:=s.heap.push o,toks:=t } where
 keep:=λb ob e=>Heap.get?_push_of_some _ (a.keep b ob e)
 rep:=λb ao e=>(a.rep b ao e).mono (.push o) (λ_ h=>Heap.get?_push_of_some _ h)
 own:=a.own
 gens:=a.gens
 os:=a.os
 ff:=a.ffk λ_ _ e=>Heap.get?_push_of_some _ e
theorem Step.push{B:Addr->Prop}(Y:AHeap)(s:Shared)(o:Obj)(t:Nat):Step B Y s Y { s with heap:=s.heap.push o,toks:=t }:=
 .same (λ_ _ e _=>Heap.get?_push_of_some _ e) (by simp)
theorem zdS{b:Addr}{ao:AO}(h:∀xs,Y b≠some (.frz xs))(c:Addr)(xs:List AV)(e:Y c=some (.frz xs)):Y.set b ao c=some (.frz xs):=by
 rw[AHeap.wB _ _ (by rintro rfl;exact h _ e)];exact e
theorem KeepV.set{h h':Heap}(k:KeepV Y h Y h'){b:Addr}{ao:AO}(hb:∀xs,Y b≠some (.frz xs)):KeepV Y h (Y.set b ao) h':=⟨k.obj,zdS hb⟩
theorem zg0{b:Addr}(h:Y b=none)(xs:List AV):Y b≠some (.frz xs):=by rw[h];exact nofun
theorem zly{b:Addr}{o:AO}(h:Y b=some o)(ho:o.ro=false)(xs:List AV):Y b≠some (.frz xs):=by
 rw[h];intro e;obtain rfl:=Hy e;cases ho
theorem At.alloc(a:At X Y s){o:Obj}{ao:AO}(t:Nat)(hr:KeepV Y s.heap (Y.set s.heap.objs.size ao) (s.heap.push o)->RepA X (Y.set s.heap.objs.size ao) (s.heap.push o) s.heap.objs.size ao):At X (Y.set s.heap.objs.size ao) { s with heap:=s.heap.push o,toks:=t }:=by
 have kv:KeepV Y s.heap (Y.set s.heap.objs.size ao) (s.heap.push o):=(KeepV.push o).set (zg0 (a.none_of_size (fN _)));refine⟨λb ob e=>Heap.get?_push_of_some _ (a.keep b ob e),λb bo e=>?_,λb bo e hro=>?_,a.gens,a.os,λL hL=>?_⟩
 .by_cases hb:b=s.heap.objs.size
  .subst hb;rw[AHeap.wA] at e;obtain rfl:=Hy e;exact hr kv
  .rw[AHeap.wB _ _ hb] at e;exact(a.rep b bo e).mono kv (λ_ h=>Heap.get?_push_of_some _ h)
 .by_cases hb:b=s.heap.objs.size
  .subst hb;cases h:X.h₀.get? s.heap.objs.size with
   | none=>rfl
   | some ob=>exact absurd (Heap.lt_size (a.keep _ _ h)) (fBR _)
  .rw[AHeap.wB _ _ hb] at e;exact a.own b bo e hro
 .refine zd8 (a.ff L hL) λh1 o' es n h2 h3=>?_;exact zoC (by rw[AHeap.wB _ _ (fAO (Heap.lt_size h2))];exact h1) o' es n (Heap.get?_push_of_some _ h2) h3
theorem Step.alloc{B:Addr->Prop}(a:At X Y s)(o:Obj)(ao:AO)(t:Nat):Step B Y s (Y.set s.heap.objs.size ao) { s with heap:=s.heap.push o,toks:=t }:=
 .mk' (λ_ _ e _ _=>Heap.get?_push_of_some _ e) (λb h1 h2=>by
  by_cases hb:b=s.heap.objs.size
  .rw[hb];exact fN _
  .rw[AHeap.wB _ _ hb] at h1;exact absurd h2 h1) (by simp) (zdS (zg0 (a.none_of_size (fN _))))
theorem At.store(a:At X Y s){b:Addr}{old ao:AO}{h':Heap}(t:Nat)(e:Y b=some old)(hro:old.ro=false)(hs:Heap.SameBut b s.heap h')(hr:KeepV Y s.heap (Y.set b ao) h'->RepA X (Y.set b ao) h' b ao) :
  At X (Y.set b ao) { s with heap:=h',toks:=t }:=by
 have kv:KeepV Y s.heap (Y.set b ao) h':=(KeepV.mk' λc o ho st=>by
  have hc:c≠b:=by rintro rfl;rw[a.stays ho st] at e;exact absurd (Eq.symm e) (fP _)
  rw[hs.2 c hc];exact ho).set (zly e hro)
 refine⟨λc o ho=>?_,λc co ec=>?_,λc co ec hr'=>?_,a.gens,a.os,λL hL=>?_⟩
 .have hc:c≠b:=by rintro rfl;rw[a.own _ _ e hro] at ho;exact absurd (Eq.symm ho) (fP _)
  exact(hs.2 c hc).trans (a.keep c o ho)
 .by_cases hc:c=b
  .subst hc;rw[AHeap.wA] at ec;obtain rfl:=Hy ec;exact hr kv
  .rw[AHeap.wB _ _ hc] at ec;exact(a.rep c co ec).mono kv λo ho=>(hs.2 c hc).trans ho
 .by_cases hc:c=b
  .subst hc;exact a.own _ _ e hro
  .rw[AHeap.wB _ _ hc] at ec;exact a.own c co ec hr'
 .obtain⟨h1,h2⟩:=a.ff L hL;have hc:L≠b:=by rintro rfl;rw[e] at h1;exact absurd h1 (fP _)
  exact⟨by rw[AHeap.wB _ _ hc];exact h1,h2.kept λo ho=>(hs.2 L hc).trans ho⟩
theorem Step.store{B:Addr->Prop}{b:Addr}{old ao:AO}{h':Heap}(t:Nat)(e:Y b=some old)(hro:old.ro=false)(hs:Heap.SameBut b s.heap h'):Step B Y s (Y.set b ao) { s with heap:=h',toks:=t }:=
 .mk' (λc o ho hc _=>(hs.2 c (by rintro rfl;rw[e] at hc;cases hc)).trans ho) (λc h1 h2=>by
  by_cases hc:c=b
  .subst hc;rw[e] at h2;exact absurd h2 (fP _)
  .rw[AHeap.wB _ _ hc] at h1;exact absurd h2 h1) (pC hs.1.symm) (zdS (zly e hro))
theorem At.aside(a:At X Y s){b:Addr}{h':Heap}(t:Nat)(e:Y b=none)(hb:X.h₀.get? b=none)(hn:∀o,s.heap.get? b=some o->¬qL o)(hd:b∈X.fr->IsD h' b)(hs:Heap.SameBut b s.heap h') :
  At X Y { s with heap:=h',toks:=t }:=by
 have kv:KeepV Y s.heap Y h':=.mk' λc o ho st=>by
  have hc:c≠b:=by rintro rfl;exact hn _ ho st
  rw[hs.2 c hc];exact ho
 refine⟨λc o ho=>?_,λc co ec=>?_,a.own,a.gens,a.os,λL hL=>⟨(a.ff L hL).1,?_⟩⟩
 .have hc:c≠b:=by rintro rfl;rw[hb] at ho;exact absurd (Eq.symm ho) (fP _)
  exact(hs.2 c hc).trans (a.keep c o ho)
 .have hc:c≠b:=by rintro rfl;rw[e] at ec;exact absurd (Eq.symm ec) (fP _)
  exact(a.rep c co ec).mono kv λo ho=>(hs.2 c hc).trans ho
 .by_cases hc:L=b
  .subst hc;exact hd hL
  .exact(a.ff L hL).2.kept λo ho=>(hs.2 L hc).trans ho
theorem Step.aside{B:Addr->Prop}{b:Addr}{h':Heap}(t:Nat)(hB:B b)(hs:Heap.SameBut b s.heap h'):Step B Y s Y { s with heap:=h',toks:=t }:=
 .same (λc o ho hc=>(hs.2 c (by rintro rfl;exact hc hB)).trans ho) (pC hs.1.symm)
end
abbrev Loc:=List (Option AV)
noncomputable def RepO(Y:AHeap)(h:Heap):Option AV->Option Value->Prop
 | none,_=>True
 | some a,some v=>RepV Y h a v
 | some _,none=>False
theorem RepO.mono{Y Y':AHeap}{h h':Heap}(k:KeepV Y h Y' h'){a:Option AV}{v:Option Value}(r:RepO Y h a v):RepO Y' h' a v:=by
 cases a with
 | none=>trivial
 | some _=>cases v with
  | none=>exact r.elim
  | some _=>exact RepV.mono k r
structure EnvOk(env:Env):Prop where
 kind:env.scope.kind = .function
 glob:env.globals=Hm
 bi:env.builtins=builtinsNs
 apart:env.cells.Pairwise λx y=>x.2≠y.2
def zxE(nm:List (Str×Nat))(n:Nat):Prop:=(∀x i,nm.lookup x=some i->i<n)/\∀x y i,nm.lookup x=some i->nm.lookup y=some i->x=y
noncomputable def kC(nm:List (Str×Nat)):Nat:=nm.foldl (λn p=>max n (p.2+1)) 0
structure FR(X:Cx)(env:Env)(nm:List (Str×Nat))(l:Loc)(Y:AHeap)(h:Heap):Prop where
 ns:∃m,h.Ns env.locals m/\∀x i,nm.lookup x=some i->env.kindOf x=some .local->RepO Y h (l.getD i none) (m x)
 cell:∀x i,nm.lookup x=some i->env.kindOf x=some .cell->∃c v,env.cells.lookup x=some c/\h.IsCell c v/\RepO Y h (l.getD i none) v
 out:Y env.locals=none/\X.h₀.get? env.locals=none
 nmok:zxE nm l.length
 len:l.length=kC nm
 outc:∀x c,(x,c)∈env.cells->Y c=none/\X.h₀.get? c=none/\∃v,h.IsCell c v
def FB(env:Env):Addr->Prop:=λb=>b=env.locals\/∃x,(x,b)∈env.cells
section
variable{X:Cx}{env:Env}{nm:List (Str×Nat)}{l:Loc}{Y Y':AHeap}{s s':Shared}
theorem zbj{o:Obj}{es n}(hd:o.data = .dict es n):¬qL o:=by
 rintro(⟨_,_,_,h⟩|⟨_,_,h⟩|⟨_,_,_,h⟩)<;>(rw[hd] at h;cases h)
theorem ziD{o:Obj}{v}(hd:o.data = .cell v):¬qL o:=by
 rintro(⟨_,_,_,h⟩|⟨_,_,h⟩|⟨_,_,_,h⟩)<;>(rw[hd] at h;cases h)
theorem zae{h:Heap}{a:Addr}{m}(n:h.Ns a m):∀o,h.get? a=some o->¬qL o:=by
 intro o e;refine jt n λo' es ep ho hd _=>?_;rw[e] at ho;obtain rfl:=Hy ho;exact zbj hd
theorem kR{h:Heap}{a:Addr}{v}(n:h.IsCell a v):∀o,h.get? a=some o->¬qL o:=by
 intro o e;refine zb n λo' ho hd=>?_;rw[e] at ho;obtain rfl:=Hy ho;exact ziD hd
theorem zoI{h:Heap}{a:Addr}{m}(n:h.Ns a m):IsD h a:=by refine jt n λo es ep ho hd _=>?_;exact qW o es ep ho hd
theorem zoH{h:Heap}{a:Addr}{v}(n:h.IsCell a v):¬IsD h a:=by
 intro hR1;refine jh hR1 λo es ep ho hd=>?_;refine zb n λo' ho' hd'=>?_;rw[ho] at ho';obtain rfl:=Hy ho';rw[hd] at hd';cases hd'
theorem zbX{h:Heap}{a b:Addr}{m v}(n:h.Ns a m)(c:h.IsCell b v):a≠b:=by
 rintro rfl;refine jt n λo' es ep ho hd _=>?_;refine zb c λo ho' hd'=>?_;rw[ho] at ho';obtain rfl:=Hy ho';rw[hd] at hd';cases hd'
theorem FR.noStay(F:FR X env nm l Y s.heap):NoStay (FB env) s.heap:=by
 rintro b o (rfl|⟨x,hx⟩) e
 .refine zb F.ns λm hn _=>?_;exact zae hn o e
 .refine kN (F.outc x b hx) λ_ _ v hc=>?_;exact kR hc o e
theorem FR.stepB{B:Addr->Prop}(F:FR X env nm l Y s.heap)(a:At X Y s)(st:Step B Y s Y' s')(hB:∀b,FB env b->¬B b)(hn:NoStay B s.heap):FR X env nm l Y' s'.heap:=by
 have kv:=st.keepV a hn;refine zb F.ns λm h29_1 hm=>?_;refine jt h29_1 λo es ep ho hd r=>?_;obtain⟨sl,ho'⟩:=st.keepD _ _ ho F.out.1 (hB _ (.inl rfl));have cellK:∀x c o v,(x,c)∈env.cells->s.heap.get? c=some o->o.data = .cell v->Y c=none->s'.heap.get? c=some o:=λx c o v hx e hd h=>st.keep c o e h (hB c (.inr ⟨x,hx⟩)) λes n q=>by rw[hd] at q;cases q
 refine⟨(zc m (ky _ es ep ho' hd r) (λx i hx hk=>(hm x i hx hk).mono kv)),λx i hx hk=>?_,⟨st.gone ho F.out.1,F.out.2⟩,F.nmok,F.len,λx c hx=>?_⟩
 .refine zm (F.cell x i hx hk) λc v hc h31_3 hr=>?_;refine zb h31_3 λo ho hd=>?_;exact zN c v hc (zc o (cellK x c o v (mem_of_lookup hc) ho hd (F.outc x c (mem_of_lookup hc)).1) hd) (hr.mono kv)
 .refine kN (F.outc x c hx) λh1 h2 v h32_3=>?_;refine zb h32_3 λo ho hd=>?_;exact zay (st.gone ho h1) h2 v (zc o (cellK x c o v hx ho hd h1) hd)
theorem FR.step(F:FR X env nm l Y s.heap)(a:At X Y s)(st:Step E0 Y s Y' s'):FR X env nm l Y' s'.heap:=F.stepB a st (λ_ _ h=>h) .e0
theorem zck(l:Loc)(i j:Nat)(v:Option AV)(hi:i<l.length):(l.set i v).getD j none=if j=i then v else l.getD j none:=by
 simp only[fS,List.getElem?_set]
 by_cases h:i=j
 .subst h;simp[hi]
 .have:¬j=i:=λe=>h e.symm;simp[h,this]
theorem zge{M:Model}{A:Around}{E:Value->Shared->Prop}{x:Str}{i:Nat}{av:AV}{v:Value}{Q:Unit->Shared->Prop}(EO:EnvOk env)(F:FR X env nm l Y s.heap)(a:At X Y s)
  (hx:nm.lookup x=some i)(hk:env.kindOf x=some .local)(hv:RepV Y s.heap av v)
  (h:∀s',FR X env nm (l.set i (some av)) Y s'.heap->At X Y s'->Step (λb=>b=env.locals) Y s Y s'->Q () s'):wpAny M A (storeName env x v) Q E s:=by
 have N:=F.nmok;refine zb F.ns λm hn hm=>?_;refine wpAny_storeName_local hk hn (λh' hn' hs'=>?_) (by rw[EO.kind];rfl);have kv:KeepV Y s.heap Y h':=.mk' λb o e st=>(hs'.2 b (by rintro rfl;exact zae hn o e st)).trans e;refine h _ ⟨(zc _ hn' (λy j hy hky=>?_)),λy j hy hky=>?_,F.out,by simpa using N,by simpa using F.len,λy c hy=>?_⟩ (a.aside _ F.out.1 F.out.2 (zae hn) (λ_=>zoI hn') hs') (Step.aside _ rfl hs')
 .rw[zck _ _ _ _ (N.1 x i hx)]
  by_cases hyx:y=x
  .subst hyx;rw[hx] at hy;obtain rfl:=Hy hy;simp only[if_true];exact hv.mono kv
  .have:j≠i:=λe=>hyx (N.2 y x i (e▸hy) hx);simp only[hyx,this,if_false];exact(hm y j hy hky).mono kv
 .refine zm (F.cell y j hy hky) λc u hc hcc hr=>?_;have hyx:y≠x:=by rintro rfl;rw[hk] at hky;cases hky
  have hji:j≠i:=λe=>hyx (N.2 y x i (e▸hy) hx);rw[zck _ _ _ _ (N.1 x i hx),if_neg hji];exact zN c u hc (hcc.sameBut hs' (Ne.symm (zbX hn hcc))) (hr.mono kv)
 .refine kN (F.outc y c hy) λh1 h2 u hcc=>?_;exact zay h1 h2 u (hcc.sameBut hs' (Ne.symm (zbX hn hcc)))
theorem zfb{M:Model}{A:Around}{E:Value->Shared->Prop}{x:Str}{i:Nat}{av:AV}{v:Value}{Q:Unit->Shared->Prop}(EO:EnvOk env)(F:FR X env nm l Y s.heap)(a:At X Y s)
  (hx:nm.lookup x=some i)(hk:env.kindOf x=some .local\/env.kindOf x=some .cell)(hv:RepV Y s.heap av v)
  (h:∀s',FR X env nm (l.set i (some av)) Y s'.heap->At X Y s'->Step (FB env) Y s Y s'->Q () s'):wpAny M A (storeName env x v) Q E s:=by
 have N:=F.nmok
 rcases hk with hk|hk
 .exact zge EO F a hx hk hv λs' F' a' st=>h s' F' a' (st.weaken λb hb=>.inl hb)
 .refine zb F.ns λm hn hm=>?_;refine zm (F.cell x i hx hk) λc u hc hcc hr=>?_;refine wpAny_storeName_cell EO.kind hk hc hcc λh' hcc' hs'=>?_;have kv:KeepV Y s.heap Y h':=.mk' λb o e st=>(hs'.2 b (by rintro rfl;exact kR hcc o e st)).trans e;have oc:=F.outc x c (mem_of_lookup hc);refine h { s with heap:=h' } ⟨(zc m (hn.sameBut hs' (zbX hn hcc)) (λy j hy hky=>?_)),λy j hy hky=>?_,F.out,by simpa using N,by simpa using F.len,λy c' hy=>?_⟩ (a.aside (t:=s.toks) (h':=h') oc.1 oc.2.1 (kR hcc) (λhL=>((zoH hcc) (a.ff _ hL).2).elim) hs')
   (Step.aside (t:=s.toks) (h':=h') (Or.inr ⟨x,mem_of_lookup hc⟩) hs')
  .have hyx:y≠x:=by rintro rfl;rw[hk] at hky;cases hky
   have hji:j≠i:=λe=>hyx (N.2 y x i (e▸hy) hx);rw[zck _ _ _ _ (N.1 x i hx),if_neg hji];exact(hm y j hy hky).mono kv
  .rw[zck _ _ _ _ (N.1 x i hx)]
   by_cases hyx:y=x
   .subst hyx;rw[hx] at hy;obtain rfl:=Hy hy;simp only[if_true];exact zN c (some v) hc hcc' (hv.mono kv)
   .have hji:j≠i:=λe=>hyx (N.2 y x i (e▸hy) hx);simp only[hji,if_false];refine zm (F.cell y j hy hky) λc' u' hc' hcc'' hr'=>?_;refine zN c' u' hc' (hcc''.sameBut hs' ?_) (hr'.mono kv);rintro rfl;exact hyx (name_of_addr EO.apart (mem_of_lookup hc') (mem_of_lookup hc))
  .refine kN (F.outc y c' hy) λh1 h2 u' hcc''=>?_
   by_cases hcc3:c'=c
   .subst hcc3;exact zay h1 h2 _ hcc'
   .exact zay h1 h2 u' (hcc''.sameBut hs' hcc3)
theorem zrH{M:Model}{A:Around}{E:Value->Shared->Prop}{x:Str}{i:Nat}{av:AV}{Q:Value->Shared->Prop}(EO:EnvOk env)(F:FR X env nm l Y s.heap)
  (hx:nm.lookup x=some i)(hk:env.kindOf x=some .local\/env.kindOf x=some .cell)(hl:l.getD i none=some av)(h:∀v,RepV Y s.heap av v->Q v s):wpAny M A (loadName env x) Q E s:=by
 rcases hk with hk|hk
 .refine zb F.ns λm hn hm=>?_;have hr:=hm x i hx hk;rw[hl] at hr;cases hv:m x with
  | none=>rw[hv] at hr;exact hr.elim
  | some v=>rw[hv] at hr;exact wpAny_loadName_local EO.kind hk hn hv (h v hr)
 .refine zm (F.cell x i hx hk) λc u hc hcc hr=>?_;rw[hl] at hr;cases u with
  | none=>exact hr.elim
  | some v=>exact wpAny_loadName_cell EO.kind hk hc hcc (h v hr)
end
def zdK(n:Nat)(P:Prop):Prop:=match Nat.ble n 1000000 with
 | true=>P
 | false=>False
theorem zD{n:Nat}{P:Prop}(h:n<=1000000)(q:P):zdK n P:=by unfold zdK;rw[fA1 h];exact q
theorem qZ{n:Nat}{P:Prop}(h:zdK n P):n<=1000000/\P:=by
 unfold zdK at h;cases e:Nat.ble n 1000000 with
 | true=>rw[e] at h;exact⟨gQ e,h⟩
 | false=>rw[e] at h;exact h.elim
def zt{α:Type}(o:Option α)(F:α->Prop):Prop:=match o with
 | some a=>F a
 | none=>False
theorem ze{α:Type}{o:Option α}{F:α->Prop}{a:α}(h:o=some a)(q:F a):zt o F:=by rw[h];exact q
theorem zg{α:Type}{o:Option α}{F:α->Prop}(h:zt o F):∃a,o=some a/\F a:=by
 cases o with
 | none=>exact h.elim
 | some a=>exact zc a rfl h
def onB(b:Bool)(P:Prop):Prop:=match b with
 | true=>P
 | false=>False
theorem jd{b:Bool}{P:Prop}(h:b=true)(q:P):onB b P:=by rw[h];exact q
theorem qG{b:Bool}{P:Prop}(h:onB b P):b=true/\P:=by
 cases b with
 | false=>exact h.elim
 | true=>exact⟨rfl,h⟩
noncomputable def AV.int? : AV->Option Int
 | .int i=>some i
 | _=>Option.none
noncomputable def AV.bool? : AV->Option Bool
 | .bool i=>some i
 | _=>Option.none
noncomputable def AV.str? : AV->Option Nat
 | .str i=>some i
 | _=>Option.none
noncomputable def AV.tup? : AV->Option (List AV)
 | .tup i=>some i
 | _=>Option.none
theorem jp{x:AV}{i:Int}(h:x.int? = some i):x = .int i:=by
 cases x with
 | int j=>cases h;rfl
 | _=>cases h
theorem za4{x:AV}{i:Bool}(h:x.bool? = some i):x = .bool i:=by
 cases x with
 | bool j=>cases h;rfl
 | _=>cases h
theorem zhn{x:AV}{i:Nat}(h:x.str? = some i):x = .str i:=by
 cases x with
 | str j=>cases h;rfl
 | _=>cases h
theorem zlT{x:AV}{i:List AV}(h:x.tup? = some i):x = .tup i:=by
 cases x with
 | tup j=>cases h;rfl
 | _=>cases h
def cB(c:Bool)(P R:Prop):Prop:=match c with
 | true=>P
 | false=>R
theorem qe{c:Bool}{P R:Prop}(h1:c=true->P)(h2:c=false->R):cB c P R:=by
 cases c with
 | true=>exact h1 rfl
 | false=>exact h2 rfl
abbrev zl:=AV->AHeap->Prop
abbrev XP:=Addr->AHeap->Prop
structure Dp where
 n:Nat
 hd:Bool
abbrev AE:=Dp->Loc->zl->XP->AHeap->Prop
structure FrOk(X:Cx)(envs:List Env):Prop where
 is:∀e∈envs,e.scope.kind≠.module/\∃L,e.frame=some L/\L∈X.fr
 out:∀L∈X.fr,X.h₀.get? L=none
structure Live(X:Cx)(d:Dp)(A:Around):Prop where
 depth:A.depth<=301+d.n
 units:A.units<=20+8*d.n
 handled:d.hd=false->A.handled=none
 small:d.n<=600
 frames:∃envs,A.frames=some envs/\FrOk X envs/\∀e,X.top=some e->∃outer,envs=e::outer
theorem Live.room{X:Cx}{d:Dp}{A:Around}(L:Live X d A):A.units+3000<cLine:=by
 have h1:=L.units;have h2:=L.small;show A.units+3000<9900;exact zFu h1 h2
noncomputable def vis(Y:AHeap):AHeap:=λa=>match Y a with
 | some (.frz _)=>none
 | o=>o
theorem zG{Y:AHeap}{a:Addr}{o:AO}(h:vis Y a=some o):Y a=some o/\o.ro=false:=by
 unfold vis at h;split at h
 .exact absurd (Eq.symm h) (fP _)
 .rename_i hne
  refine⟨h,?_⟩;cases o with
  | frz xs=>exact(hne _ h).elim
  | _=>rfl
theorem zhs{Y:AHeap}{a:Addr}{o:AO}(h:Y a=some o)(ho:o.ro=false):vis Y a=some o:=by
 unfold vis;split
 .rename_i e;rw[e] at h;obtain rfl:=Hy h;cases ho
 .exact h
theorem qw{Y:AHeap}{a:Addr}(h:Y a=none):vis Y a=none:=by
 unfold vis;rw[h]
theorem jF{Y:AHeap}{a:Addr}{o:AO}(ho:o.ro=false):vis (Y.set a o)=(vis Y).set a o:=by
 funext b
 by_cases hb:b=a
 .subst hb;rw[AHeap.wA,zhs (AHeap.wA ..) ho]
 .rw[AHeap.wB _ _ hb];unfold vis;rw[AHeap.wB _ _ hb]
theorem zhr{Y:AHeap}{a:Addr}{xs:List AV}(h:Y a=none):vis (Y.set a (.frz xs))=vis Y:=by
 funext b
 by_cases hb:b=a
 .subst hb;unfold vis;rw[AHeap.wA,h]
 .unfold vis;rw[AHeap.wB _ _ hb]
def New(Y:AHeap)(s:Shared)(x:Addr):Prop:=∀o,s.heap.get? x=some o->Y x≠none
theorem New.back{B:Addr->Prop}{Y Y':AHeap}{s s':Shared}{x:Addr}(st:Step B Y s Y' s')(hB:¬B x)(h:New Y' s' x):New Y s x:=λo e q=>by
 obtain⟨sl,e'⟩:=st.keepD x o e q hB;exact h _ e' (st.gone e q)
structure Fly(X:Cx)(Y:AHeap)(g:Heap)(x c:Addr)(h:Heap):Prop where
 keepS:∀b o,g.get? b=some o->b≠x->∃sl,h.get? b=some { o with slots:=sl }
 keepX:∀b o,g.get? b=some o->b≠x->((∀es n,o.data≠.dict es n)\/Y b≠none\/X.h₀.get? b≠none)->h.get? b=some o
 exg:∃vs,g.get? x=some (exO c vs)
 size:g.objs.size<=h.objs.size
 exh:∃vs,h.get? x=some (exO c vs)/\(vs[1]? = some .none\/∃T tc ts,vs[1]? = some (.ref T)/\T≠x/\g.get? T=none/\h.get? T=some { cls:=tc,dict:=none,data:=.fields ts,slots:=#[] }/\ts[3]? = some .none)
def liftQ(X:Cx)(Y:AHeap)(s:Shared)(Q:zl):Value->Shared->Prop:=
 λv s'=>∃av Y',RepV Y' s'.heap av v/\At X Y' s'/\Step E0 Y s Y' s'/\Q av (vis Y')
def liftX(X:Cx)(Y:AHeap)(s:Shared)(Z:XP):Value->Shared->Prop:=
 λe s'=>∃c Y' x g,e = .ref x/\New Y s x/\At X Y' { s' with heap:=g }/\Step E0 Y s Y' { s' with heap:=g }/\Fly X Y' g x c s'.heap/\Z c (vis Y')
def liftB(X:Cx)(Y:AHeap)(s:Shared)(Q:Bool->AHeap->Prop):Bool->Shared->Prop:=
 λb s'=>∃Y',At X Y' s'/\Step E0 Y s Y' s'/\Q b (vis Y')
def zsb(X:Cx)(Y:AHeap)(s:Shared)(Q:List AV->AHeap->Prop):List Value->Shared->Prop:=
 λvs s'=>∃avs Y',RepVs Y' s'.heap avs vs/\At X Y' s'/\Step E0 Y s Y' s'/\Q avs (vis Y')
section
variable{X:Cx}{A:Around}{Y Y':AHeap}{s s':Shared}{Z:XP}
theorem liftX.back{e:Value}{s'':Shared}(st:Step E0 Y s Y' s')(h:liftX X Y' s' Z e s''):liftX X Y s Z e s'':=
 by refine jU h λc Y'' x g h1 h2 a st' f z=>?_;exact qX c Y'' x g h1 (h2.back st (λh=>h)) a (st.trans st') f z
theorem liftQ.back{Q:zl}{v:Value}{s'':Shared}(st:Step E0 Y s Y' s')(h:liftQ X Y' s' Q v s''):liftQ X Y s Q v s'':=
 by refine zj h λav Y'' r a st' q=>?_;exact zq av Y'' r a (st.trans st') q
theorem liftB.back{Q:Bool->AHeap->Prop}{v:Bool}{s'':Shared}(st:Step E0 Y s Y' s')(h:liftB X Y' s' Q v s''):liftB X Y s Q v s'':=
 by refine zh h λY'' a st' q=>?_;exact zr Y'' a (st.trans st') q
theorem zam{α:Type}{t:Sem Value}{f:Value->Sem α}{Q1:zl}{R:Value->α->Shared->Prop}(h:wpAny X.M A t (liftQ X Y s Q1) (liftX X Y s Z) s)
  (k:∀av v Y1 s1,RepV Y1 s1.heap av v->At X Y1 s1->Step E0 Y s Y1 s1->Q1 av (vis Y1)->wpAny X.M A (f v) (R v) (liftX X Y s Z) s1) :
  wpAny X.M A t (λv s1=>wpAny X.M A (f v) (R v) (liftX X Y s Z) s1) (liftX X Y s Z) s:=
 Ha h (λv s1 hpz=>zj hpz λav Y1 r a st q=>k av v Y1 s1 r a st q) λ_ _ e=>e
theorem j4{t:Sem Value}{Q:zl}(st:Step E0 Y s Y' s')(h:wpAny X.M A t (liftQ X Y' s' Q) (liftX X Y' s' Z) s'):wpAny X.M A t (liftQ X Y s Q) (liftX X Y s Z) s':=
 Ha h (λ_ _ h=>h.back st) λ_ _ h=>h.back st
theorem zfx{t:Sem Bool}{Q:Bool->AHeap->Prop}(st:Step E0 Y s Y' s')(h:wpAny X.M A t (liftB X Y' s' Q) (liftX X Y' s' Z) s'):wpAny X.M A t (liftB X Y s Q) (liftX X Y s Z) s':=
 Ha h (λ_ _ h=>h.back st) λ_ _ h=>h.back st
theorem zb3{Q:zl}{av:AV}{v:Value}(a:At X Y s)(r:RepV Y s.heap av v)(q:Q av (vis Y)):liftQ X Y s Q v s:=(zq av Y r a (.refl ..) q)
theorem kU{Q:zl}{av:AV}{v:Value}{t:Nat}(a:At X Y s)(r:RepV Y s.heap av v)(q:Q av (vis Y)):liftQ X Y s Q v { s with toks:=t }:=(zq av Y r (a.toks t) (.toks ..) q)
end
def zi(X:Cx)(env:Env)(nm:List (Str×Nat))(e:Expr)(m:AE):Prop:=
 ∀d A l Y s Q Z,Live X d A->At X Y s->FR X env nm l Y s.heap->m d l Q Z (vis Y)->wpAny X.M A (eval e env) (liftQ X Y s Q) (liftX X Y s Z) s
def isB(Q:Bool->AHeap->Prop):zl:=λa Y=>zt a.bool? λb=>Q b Y
def qS(X:Cx)(env:Env)(nm:List (Str×Nat))(e:Expr)(m:AE):Prop:=
 ∀d A l Y s Q Z,Live X d A->At X Y s->FR X env nm l Y s.heap->m d l (isB Q) Z (vis Y)->wpAny X.M A (isTrue e env (eval e env)) (liftB X Y s Q) (liftX X Y s Z) s
namespace A
def kAt(Q:zl)(Y:AHeap)(a:AV):Prop:=Q a Y
def loc(i:Nat):AE:=λ_ l Q _ Y=>zt (l.getD i none) (kAt Q Y)
def k(a:AV):AE:=λ_ _ Q _ Y=>Q a Y
end A
section
variable{X:Cx}{env:Env}{nm:List (Str×Nat)}
theorem znq{x:Str}{pos:Pos}{i:Nat}(EO:EnvOk env)(hx:nm.lookup x=some i)(hk:env.kindOf x=some .local\/env.kindOf x=some .cell)(hd:(x==("__debug__" : Str))=false) :
  zi X env nm (.Name x pos) (A.loc i):=λd A l Y s Q Z L a F q=>by
 refine zb (zg q) λav hl q=>?_;exact wpAny_Name (zrH EO F hx hk hl λv r=>zb3 a r q) hd
theorem znn{i:Int}{k pos}:zi X env nm (.Constant (.int i) k pos) (A.k (.int i)):=λd A l Y s Q Z L a F q=>
 wpAny_Constant_int (kU a (.int _ _) q)
theorem znz{x:Str}{n:Nat}(hn:n<zao)(hx:zy n=x){k pos}:zi X env nm (.Constant (.str x) k pos) (A.k (.str n)):=λd A l Y s Q Z L a F q=>by
 subst hx;exact λ_ _ _=>kU a (.str hn _) q
theorem zkN{k pos}:zi X env nm (.Constant .none k pos) (A.k .none):=λd A l Y s Q Z L a F q=>G9 (zb3 a .none q)
theorem zkG{b:Bool}{k pos}:zi X env nm (.Constant (.bool b) k pos) (A.k (.bool b)):=λd A l Y s Q Z L a F q=>G9 (zb3 a (.bool b) q)
theorem znc{e:Expr}{m:AE}(h:zi X env nm e m)(he:∀whole,isTrue e env whole=(do let v <-whole;standAt e.pos;holding [v] (truthy v))):qS X env nm e m:=λd A l Y s Q Z L a F q=>by
 rw[he];refine G8 (zam (h d A l Y s (isB Q) Z L a F q) λav v Y1 s1 r a1 st hpx=>?_);refine zb (zg hpx) λb e q1=>?_;have e:=za4 e;subst e;obtain rfl:=RepV.wN r;exact G8 (Hi (Hb (wpAny_truthy_bool (zr Y1 a1 st q1))))
end
inductive Fl where
 | next
 | ret (v:AV)
abbrev zT:=Fl->Loc->AHeap->Prop
abbrev SXP:=Addr->Loc->AHeap->Prop
abbrev AS:=Dp->Loc->zT->SXP->AHeap->Prop
noncomputable def zr2(Y:AHeap)(h:Heap):Fl->Flow->Prop
 | .next,.next=>True
 | .ret a,.ret v=>RepV Y h a v
 | _,_=>False
def liftS(X:Cx)(env:Env)(nm:List (Str×Nat))(Y:AHeap)(s:Shared)(Q:zT):Flow->Shared->Prop:=
 λf s'=>∃fl l' Y',zr2 Y' s'.heap fl f/\At X Y' s'/\FR X env nm l' Y' s'.heap/\Step (FB env) Y s Y' s'/\Q fl l' (vis Y')
def liftSX(X:Cx)(env:Env)(nm:List (Str×Nat))(Y:AHeap)(s:Shared)(Z:SXP):Value->Shared->Prop:=
 λe s'=>∃c l' Y' x g,e = .ref x/\(New Y s x/\¬FB env x)/\At X Y' { s' with heap:=g }/\FR X env nm l' Y' g/\Step (FB env) Y s Y' { s' with heap:=g }/\Fly X Y' g x c s'.heap/\Z c l' (vis Y')
def jr(X:Cx)(env:Env)(nm:List (Str×Nat))(st:Stmt)(m:AS):Prop:=
 ∀d A l Y s Q Z,Live X d A->At X Y s->FR X env nm l Y s.heap->m d l Q Z (vis Y)->wpAny X.M A (exec st env) (liftS X env nm Y s Q) (liftSX X env nm Y s Z) s
def j8(X:Cx)(env:Env)(nm:List (Str×Nat))(sts:List Stmt)(m:AS):Prop:=
 ∀d A l Y s Q Z,Live X d A->At X Y s->FR X env nm l Y s.heap->m d l Q Z (vis Y)->wpAny X.M A (execs sts env) (liftS X env nm Y s Q) (liftSX X env nm Y s Z) s
namespace A
def nil:AS:=λd l Q Z Y=>Q .next l Y
def vK(b:AS)(d:Dp)(Q:zT)(Z:SXP):zT:=λf l' Y'=>match f with|.next=>b d l' Q Z Y'|.ret v=>Q (.ret v) l' Y'
def kZ(Z:SXP)(l:Loc):XP:=λc Y'=>Z c l Y'
def vL(i:Nat)(l:Loc)(Q:zT):zl:=λa Y'=>Q .next (l.set i (some a)) Y'
def zyd(l:Loc)(Q:zT):zl:=λa Y'=>Q (.ret a) l Y'
def kIf(a b:AS)(d:Dp)(l:Loc)(Q:zT)(Z:SXP)(c:Bool)(Y':AHeap):Prop:=cB c (a d l Q Z Y') (b d l Q Z Y')
def noX:SXP:=λ_ _ _=>False
def wL(I:AHeap->Prop)(K:Loc->AHeap->Prop)(S:zT):zT:=λf l'' Y'=>match f with|.next=>I Y'/\K l'' Y'|.ret v=>S (.ret v) l'' Y'
def cons(a b:AS):AS:=λd l Q Z Y=>a d l (vK b d Q Z) Z Y
def set(i:Nat)(x:AE):AS:=λd l Q Z Y=>x d l (vL i l Q) (kZ Z l) Y
def ret(x:AE):AS:=λd l Q Z Y=>x d l (zyd l Q) (kZ Z l) Y
def vG:AS:=λd l Q Z Y=>Q (.ret .none) l Y
def if_(t:AE)(a b:AS):AS:=λd l Q Z Y=>t d l (isB (kIf a b d l Q Z)) (kZ Z l) Y
def w2(t:AE)(a:AS):AS:=λd l Q Z Y=>∃(J:Nat->Loc->AHeap->Prop) (n:Nat),J n l Y/\∀n l Y,J n l Y->
 t d l (isB λc Y'=>cB c (a d l (λf l' Y''=>match f with|.next=>∃m,m<n/\J m l' Y''|.ret v=>Q (.ret v) l' Y'') (λ_ _ _=>False) Y') (Q .next l Y')) (λ_ _=>False) Y
end A
section
variable{X:Cx}{env:Env}{nm:List (Str×Nat)}{Y Y':AHeap}{s s':Shared}
theorem FB.wP(b:Addr)(h:E0 b):FB env b:=h.elim
theorem liftS.back{Q:zT}{f:Flow}{s'':Shared}(st:Step (FB env) Y s Y' s')(h:liftS X env nm Y' s' Q f s''):liftS X env nm Y s Q f s'':=
 by refine qc h λfl l' Y'' r a F st' q=>?_;exact zH fl l' Y'' r a F (st.trans st') q
theorem liftSX.back{Z:SXP}{e:Value}{s'':Shared}(st:Step (FB env) Y s Y' s')(h:liftSX X env nm Y' s' Z e s''):liftSX X env nm Y s Z e s'':=
 by refine kq h λc l' Y'' x g h1 h2 a F st' f q=>?_;exact qo c l' Y'' x g h1 ⟨h2.1.back st h2.2,h2.2⟩ a F (st.trans st') f q
theorem FB.w9{l:Loc}{g:Heap}{x c:Addr}(F:FR X env nm l Y g)(h:∃vs,g.get? x=some (exO c vs)):¬FB env x:=by
 obtain⟨vs,h1⟩:=h;rintro(rfl|⟨y,hy⟩)
 .refine zb F.ns λm h3_1 _=>?_;refine jt h3_1 λo' es ep h3 h4 _=>?_;rw[h1] at h3;obtain rfl:=Hy h3;cases h4
 .refine zcc (F.outc y x hy) λ_ _ v o' h3 h4=>?_;rw[h1] at h3;obtain rfl:=Hy h3;cases h4
theorem liftX.toS{l:Loc}{Z:SXP}{e:Value}{s'':Shared}(a0:At X Y s)(F:FR X env nm l Y s.heap)(h:liftX X Y s (λc Y'=>Z c l Y') e s''):liftSX X env nm Y s Z e s'':=
 by refine jU h λc Y'' x g h1 h2 a st' f q=>?_;exact qo c l Y'' x g h1 ⟨h2,FB.w9 (F.step a0 st') f.exg⟩ a (F.step a0 st') (st'.weaken FB.wP) f q
theorem inS{α:Type}{A:Around}{l:Loc}{t:Sem Value}{f:Value->Sem α}{Q1:zl}{Z:SXP}{R:α->Shared->Prop}{E:Value->Shared->Prop}(a0:At X Y s)(F:FR X env nm l Y s.heap)
  (h:wpAny X.M A t (liftQ X Y s Q1) (liftX X Y s λc Y'=>Z c l Y') s)(hE:∀e s',liftSX X env nm Y s Z e s'->E e s')
  (k:∀av v Y1 s1,RepV Y1 s1.heap av v->At X Y1 s1->FR X env nm l Y1 s1.heap->Step (FB env) Y s Y1 s1->Step E0 Y s Y1 s1->Q1 av (vis Y1)->wpAny X.M A (f v) R E s1) :
  wpAny X.M A t (λv s1=>wpAny X.M A (f v) R E s1) E s:=
 Ha h (λv s1 hpz=>zj hpz λav Y1 r a st q=>k av v Y1 s1 r a (F.step a0 st) (st.weaken FB.wP) st q) λe s' x=>hE e s' (x.toS a0 F)
theorem znv:j8 X env nm [] A.nil:=λd A l Y s Q Z L a F q=>wpAny_execs_nil (zH .next l Y trivial a F (.refl ..) q)
theorem zkI{st:Stmt}{sts:List Stmt}{m ms:AS}(h:jr X env nm st m)(hs:j8 X env nm sts ms):j8 X env nm (st::sts) (A.cons m ms):=λd A l Y s Q Z L a F q=>by
 refine wpAny_execs_cons (Ha (h d A l Y s _ Z L a F q) (λf s1 hpx=>?_) λ_ _ e=>e);refine qc hpx λfl l1 Y1 r a1 F1 st1 q1=>?_;cases f with
 | next=>
  cases fl with
  | next=>exact Ha (hs d A l1 Y1 s1 Q Z L a1 F1 q1) (λ_ _ x=>x.back st1) λ_ _ x=>x.back st1
  | ret v=>exact r.elim
 | ret v=>
  cases fl with
  | next=>exact r.elim
  | ret av=>exact⟨.ret av,l1,Y1,r,a1,F1,st1,q1⟩
 | brk=>cases fl<;>exact r.elim
 | cont=>cases fl<;>exact r.elim
theorem zny{e:Expr}{pos:Pos}{m:AE}(h:zi X env nm e m):jr X env nm (.Return (some e) pos) (A.ret m):=λd A l Y s Q Z L a F q=>
 wpAny_Return_some (Ha (h d A l Y s _ _ L a F q) (λv s1 hpz=>zj hpz λav Y1 r a1 st q1=>(zH (.ret av) l Y1 r a1 (F.step a st) (st.weaken FB.wP) q1)) λ_ _ x=>x.toS a F)
theorem zkP{pos:Pos}:jr X env nm (.Return none pos) A.vG:=λd A l Y s Q Z L a F q=>
 wpAny_Return_none (zH (.ret .none) l Y RepV.none a F (.refl ..) q)
theorem zf5{x:Str}{pos' pos:Pos}{value:Expr}{m:AE}{i:Nat}(EO:EnvOk env)(h:zi X env nm value m)(hx:nm.lookup x=some i)(hk:env.kindOf x=some .local\/env.kindOf x=some .cell)
  (hs:swapsWith value (some (.Name x pos')) pos.line env=pure false):jr X env nm (.Assign [.Name x pos'] value pos) (A.set i m):=λd A l Y s Q Z L a F q=>
 wpAny_Assign_Name (inS a F (h d A l Y s _ _ L a F q) (λ_ _ e=>e) λav v Y1 s1 r a1 F1 st _ q1=>
  zfb EO F1 a1 hx hk r λs2 F2 a2 st2=>(zH .next _ Y1 trivial a2 F2 (st.trans st2) q1)) hs
theorem zpS{test:Expr}{body orelse:List Stmt}{pos:Pos}{t:AE}{a b:AS}(ht:qS X env nm test t)(ha:j8 X env nm body a)(hb:j8 X env nm orelse b) :
  jr X env nm (.If test body orelse pos) (A.if_ t a b):=λd A l Y s Q Z L a0 F q=>by
 refine wpAny_If (Ha (ht d A l Y s _ _ L a0 F q) (λc s1 hpx=>?_) λ_ _ x=>x.toS a0 F);refine zh hpx λY1 a1 st q1=>?_;have F1:=F.step a0 st;have st':=st.weaken (B':=FB env) FB.wP;cases c with
 | true=>exact Ha (ha d A l Y1 s1 Q Z L a1 F1 q1) (λ_ _ x=>x.back st') λ_ _ x=>x.back st'
 | false=>exact Ha (hb d A l Y1 s1 Q Z L a1 F1 q1) (λ_ _ x=>x.back st') λ_ _ x=>x.back st'
theorem noX{Y:AHeap}{s:Shared}{e:Value}{s':Shared}{P:Prop}(h:liftX X Y s (λ_ _=>False) e s'):P:=by refine jU h λ_ _ _ _ _ _ _ _ _ z=>?_;exact z.elim
theorem zth{Y:AHeap}{s:Shared}{e:Value}{s':Shared}{P:Prop}(h:liftSX X env nm Y s (λ_ _ _=>False) e s'):P:=by refine kq h λ_ _ _ _ _ _ _ _ _ _ _ z=>?_;exact z.elim
theorem zi0{test:Expr}{body:List Stmt}{pos:Pos}{t:AE}{m:AS}(ht:qS X env nm test t)(hb:j8 X env nm body m) :
  jr X env nm (.While test body [] pos) (A.w2 t m):=λd A l Y s Q Z L a0 F hpz=>js hpz λJ n hJ hstep=>by
 refine wpAny_While (codeAny_whileLoop (λn s1=>∃l1 Y1,At X Y1 s1/\FR X env nm l1 Y1 s1.heap/\Step (FB env) Y s Y1 s1/\J n l1 (vis Y1)) ?_ n (zq l Y a0 F (.refl ..) hJ));intro n s1 hR1;refine zj hR1 λl1 Y1 a1 F1 st1 hJ1=>?_;refine Ha (ht d A l1 Y1 s1 _ _ L a1 F1 (hstep n l1 (vis Y1) hJ1)) (λc s2 hpx=>?_) λ_ _ x=>noX x;refine zh hpx λY2 a2 st2 q2=>?_;have F2:=F1.step a1 st2;have st2':=st1.trans (st2.weaken (B':=FB env) FB.wP);cases c with
 | true=>
  refine Ha (hb d A l1 Y2 s2 _ _ L a2 F2 q2) (λf s3 hpx=>?_) λ_ _ x=>zth x;refine qc hpx λfl l3 Y3 r a3 F3 st3 q3=>?_;cases f with
  | next=>
   cases fl with
   | next=>refine zb q3 λk hk hJ3=>?_;exact zjN k hk l3 Y3 a3 F3 (st2'.trans st3) hJ3
   | ret v=>exact r.elim
  | ret v=>
   cases fl with
   | next=>exact r.elim
   | ret av=>exact zH (.ret av) l3 Y3 r a3 F3 (st2'.trans st3) q3
  | brk=>cases fl<;>exact r.elim
  | cont=>cases fl<;>exact r.elim
 | false=>
  exact wpAny_execs_nil (zH .next l1 Y2 trivial a2 F2 st2' q2)
end
inductive Tgt where
 | one (i:Nat)
 | many (is:List Nat)
noncomputable def zrp:List Nat->List AV->Loc->Loc
 | i::is,x::xs,l=>zrp is xs (l.set i (some x))
 | _,_,l=>l
noncomputable def jL:Tgt->AV->Loc->Option Loc
 | .one i,x,l=>some (l.set i (some x))
 | .many is,.tup xs,l=>if xs.length=is.length then some (zrp is xs l) else none
 | _,_,_=>none
def Sto(B:Addr->Prop)(env:Env)(x:Str):Prop:=(env.kindOf x=some .local/\∀b,b=env.locals->B b)\/(env.kindOf x=some .cell/\∀b,FB env b->B b)
theorem zgd{X:Cx}{env:Env}{nm:List (Str×Nat)}{l:Loc}{Y:AHeap}{s:Shared}{B:Addr->Prop}{M:Model}{A:Around}{E:Value->Shared->Prop}{x:Str}{i:Nat}{av:AV}{v:Value}{Q:Unit->Shared->Prop}(EO:EnvOk env)(F:FR X env nm l Y s.heap)(a:At X Y s)
  (hx:nm.lookup x=some i)(hk:Sto B env x)(hv:RepV Y s.heap av v)
  (h:∀s',FR X env nm (l.set i (some av)) Y s'.heap->At X Y s'->Step B Y s Y s'->Q () s'):wpAny M A (storeName env x v) Q E s:=by
 rcases hk with⟨hk,hB⟩|⟨hk,hB⟩
 .exact zge EO F a hx hk hv λs' F' a' st=>h s' F' a' (st.weaken hB)
 .exact zfb EO F a hx (.inr hk) hv λs' F' a' st=>h s' F' a' (st.weaken hB)
theorem ztv{env:Env}{x:Str}(hk:env.kindOf x=some .local\/env.kindOf x=some .cell):Sto (FB env) env x:=hk.imp (λh=>⟨h,λ_ h=>.inl h⟩) λh=>⟨h,λ_ h=>h⟩
def za1(B:Addr->Prop)(X:Cx)(env:Env)(nm:List (Str×Nat))(target:Expr)(t:Tgt):Prop:=
 ∀d A l l' Y s x v (Q:Unit->Shared->Prop) E,Live X d A->d.hd=false->At X Y s->FR X env nm l Y s.heap->RepV Y s.heap x v->jL t x l=some l'->
  (∀s',FR X env nm l' Y s'.heap->At X Y s'->Step B Y s Y s'->Q () s')->wpAny X.M A (assign target env v) Q E s
theorem zkF{B:Addr->Prop}{X:Cx}{env:Env}{nm:List (Str×Nat)}{x:Str}{pos:Pos}{i:Nat}(EO:EnvOk env)(hx:nm.lookup x=some i)(hk:Sto B env x) :
  za1 B X env nm (.Name x pos) (.one i):=λd A l l' Y s y v Q E L hd a F r hb h=>by
 cases hb;exact wpAny_assign_Name (zgd EO F a hx hk r h)
structure ItOk(X:Cx)(A:Around)(target:Expr)(it:Value)(I:AHeap->Prop)(xs:List AV)(W:Addr->Prop)(St:Nat->AHeap->Heap->Prop):Prop where
 stable:∀i Y h Y' h',St i Y h->KeepV Y h Y' h'->(∀b o,W b->h.get? b=some o->h'.get? b=some o)->St i Y' h'
 there:∀i Y h b,St i Y h->W b->∃o,h.get? b=some o/\¬qL o/\(∀es n,o.data≠.dict es n)/\(∀v,o.data≠.cell v)
 item:∀i x Y s (Q:Value->Shared->Prop) (Qn:Option Value->Shared->Prop) E,(∀v s1,wpAny X.M A (letOwnedTupleGo target it v) (λ_ s'=>Q v s') E s1->Qn (some v) s1)->
  xs[i]? = some x->At X Y s->I (vis Y)->St i Y s.heap->(∀b,W b->Y b=none/\X.h₀.get? b=none)->
  (∀v s',RepV Y s'.heap x v->At X Y s'->Step W Y s Y s'->St (i+1) Y s'.heap->Q v s')->wpAny X.M A (pyNext it) Qn E s
 done:∀Y s (Q:Option Value->Shared->Prop) E,At X Y s->I (vis Y)->St xs.length Y s.heap->(∀b,W b->Y b=none/\X.h₀.get? b=none)->
  (∀s',At X Y s'->Step W Y s Y s'->Q none s')->wpAny X.M A (pyNext it) Q E s
 self:∀i Y s (Q:Value->Shared->Prop) E,St i Y s.heap->Q it s->wpAny X.M A (pyIter it) Q E s
noncomputable def zhX(I:AHeap->Prop)(t:Tgt)(body:AS)(d:Dp)(Q:zT):List AV->Loc->AHeap->Prop
 | [],l,Y=>Q .next l Y
 | x::xs,l,Y=>∃l',jL t x l=some l'/\body d l' (A.wL I (zhX I t body d Q xs) Q) A.noX Y
section
variable{X:Cx}{env:Env}{nm:List (Str×Nat)}{A:Around}{Y:AHeap}{s:Shared}
theorem zop{d:Dp}{target:Expr}{t:Tgt}{body:List Stmt}{m:AS}{it:Value}{I:AHeap->Prop}{xs:List AV}{W:Addr->Prop}{St:Nat->AHeap->Heap->Prop}{l:Loc}{Q:zT}{R:Result->Shared->Prop}
  (L:Live X d A)(hd:d.hd=false)(IT:ItOk X A target it I xs W St)(ht:za1 (FB env) X env nm target t)(hb:j8 X env nm body m)(hW:∀b,W b->Y b=none/\X.h₀.get? b=none)
  (a0:At X Y s)(F:FR X env nm l Y s.heap)(hI:I (vis Y))(hSt:St 0 Y s.heap)(h:zhX I t m d Q xs l (vis Y))
  (hR:∀f s',(∃fl l' Y',zr2 Y' s'.heap fl f/\At X Y' s'/\FR X env nm l' Y' s'.heap/\Step (λb=>FB env b\/W b) Y s Y' s'/\Q fl l' (vis Y'))->R (.ok f) s') :
  Hk X.M A (.forLoop target it body [] env) R s:=by
 refine codeAny_forLoop_any (λk s1=>∃i l1 Y1,k=xs.length+1-i/\i<=xs.length/\At X Y1 s1/\FR X env nm l1 Y1 s1.heap/\Step (λb=>FB env b\/W b) Y s Y1 s1/\I (vis Y1)/\St i Y1 s1.heap/\
  (∀b,W b->Y1 b=none/\X.h₀.get? b=none)/\zhX I t m d Q (xs.drop i) l1 (vis Y1)) ?_ (xs.length+1) (zei 0 l Y rfl (fX _) a0 F (.refl ..) hI hSt hW h)
 intro k s1 hR2;refine zeb hR2 λi l1 Y1 e3_3 hi a1 F1 st1 hI1 hSt1 hW1 hf=>?_;subst e3_3;have noW:NoStay W s1.heap:=λb o hb e=>by refine zh (IT.there i _ _ b hSt1 hb) λo' e' h' _=>?_;rw[e] at e';obtain rfl:=Hy e';exact h'
 have ndW:∀{i Y h b o},St i Y h->W b->h.get? b=some o->∀es n,o.data≠.dict es n:=λ{i Y h b o} hs hb e=>by
  refine zE (IT.there i _ _ b hs hb) λo' e' _ h1 _=>?_;rw[e] at e';obtain rfl:=Hy e';exact h1
 have dis:∀b,FB env b->¬W b:=λb hb hw=>by
  refine zE (IT.there i _ _ b hSt1 hw) λo' e' _ h1 h2=>?_
  rcases hb with rfl|⟨x,hx⟩
  .refine zb F1.ns λ_ h16_1 _=>?_;refine jt h16_1 λo es ep ho hd _=>?_;rw[ho] at e';obtain rfl:=Hy e';exact h1 _ _ hd
  .refine zcc (F1.outc x b hx) λ_ _ v o ho hd=>?_;rw[ho] at e';obtain rfl:=Hy e';exact h2 _ hd
 cases hx:xs[i]? with
 | none=>
  have hil:i=xs.length:=fBG hi (fCS.mp hx);subst hil;refine IT.done Y1 s1 _ _ a1 hI1 hSt1 hW1 λs2 a2 st2=>?_;refine wpAny_execs_nil (hR _ _ (zH .next l1 Y1 trivial a2 (F1.stepB a1 st2 dis noW) (st1.trans (st2.weaken λb hb=>.inr hb)) ?_));rw[List.drop_length] at hf;exact hf
 | some x=>
  have hlt:i<xs.length:=(fW.mp hx).1;have hdr:xs.drop i=x::xs.drop (i+1):=by
   rw[fAI hlt,(fW.mp hx).2]
  rw[hdr] at hf;refine zb hf λl2 hb2 hf=>?_;refine IT.item i x Y1 s1 _ _ _ (λv s2 hr=>hr) hx a1 hI1 hSt1 hW1 λv s2 rv a2 st2 hSt2=>?_
  .have F2:=F1.stepB a1 st2 dis noW;have noF:=F2.noStay;refine ht d A l1 l2 Y1 s2 x v _ _ L hd a2 F2 rv hb2 λs3 F3 a3 st3=>?_;have hSt3:St (i+1) Y1 s3.heap:=IT.stable _ _ _ _ _ hSt2 (st3.keepV a2 noF) λb o hb e=>st3.keep b o e (hW1 b hb).1 (λq=>dis b q hb) (ndW hSt2 hb e);refine Ha (hb d A l2 Y1 s3 _ _ L a3 F3 hf) (λf s4 hpx=>?_) λ_ _ x=>zth x;refine qc hpx λfl l4 Y4 r a4 F4 st4 q4=>?_;have stA:Step (λb=>FB env b\/W b) Y s Y4 s4:=st1.trans ((st2.weaken λb hb=>.inr hb).trans ((st3.weaken λb hb=>.inl hb).trans (st4.weaken λb hb=>.inl hb)));cases f with
   | next=>
    cases fl with
    | next=>
     obtain⟨hI4,hf4⟩:=q4;refine zc0 (xs.length+1-(i+1)) (zrR hlt) (i+1) l4 Y4 rfl hlt a4 F4 stA hI4 (IT.stable _ _ _ _ _ hSt3 (st4.keepV a3 F3.noStay) (λb o hb e=>st4.keep b o e (hW1 b hb).1 (λq=>dis b q hb) (ndW hSt3 hb e))) (λb hb=>⟨by refine zb (IT.there _ _ _ b hSt3 hb) λo ho _=>?_;exact st4.gone ho (hW1 b hb).1,(hW1 b hb).2⟩) hf4
    | ret v=>exact r.elim
   | ret v=>
    cases fl with
    | next=>exact r.elim
    | ret av=>exact hR _ _ (zH (.ret av) l4 Y4 r a4 F4 stA q4)
   | brk=>cases fl<;>exact r.elim
   | cont=>cases fl<;>exact r.elim
end
section
variable{X:Cx}{Y:AHeap}{s:Shared}{W:Addr->Prop}{h':Heap}
theorem At.moved(a:At X Y s)(t:Nat)(hW:∀b,W b->Y b=none/\X.h₀.get? b=none)(nW:NoStay W s.heap)(nd:∀b o,W b->s.heap.get? b=some o->∀es n,o.data≠.dict es n)(hk:∀b o,¬W b->s.heap.get? b=some o->h'.get? b=some o) :
  At X Y { s with heap:=h',toks:=t }:=by
 have kv:KeepV Y s.heap Y h':=.mk' λb o e st=>hk b o (λq=>nW b o q e st) e;refine⟨λb o e=>hk b o (λq=>?_) (a.keep b o e),λb ao e=>(a.rep b ao e).mono kv λo ho=>hk b o (λq=>?_) ho,a.own,a.gens,a.os,λL hL=>⟨(a.ff L hL).1,?_⟩⟩
 .rw[(hW b q).2] at e;exact absurd (Eq.symm e) (fP _)
 .rw[(hW b q).1] at e;exact absurd (Eq.symm e) (fP _)
 .refine jh ((a.ff L hL).2) λo es n e d=>?_;exact qW o es n (hk L o (λq=>nd L o q e es n d) e) d
theorem Step.moved(Y:AHeap)(t:Nat)(hk:∀b o,¬W b->s.heap.get? b=some o->h'.get? b=some o)(hsz:s.heap.objs.size<=h'.objs.size):Step W Y s Y { s with heap:=h',toks:=t }:=
 .same (λb o e h=>hk b o h e) hsz
end
def Plain(o:Obj):Prop:=¬qL o/\(∀es n,o.data≠.dict es n)/\(∀v,o.data≠.cell v)
theorem Plain.wC{o:Obj}{T:String}{vs:Array Value}(hc:o.cls = .type T)(hd:o.data = .fields vs)(h2:T≠"range"):Plain o:=by
 refine zo ?_ (λes n h=>?_) (λv h=>?_)
 rotate_left
 .rw[hd] at h;cases h
 .rw[hd] at h;cases h
 rintro(⟨h,_,_,h'⟩|⟨h,_⟩|⟨c,vs,h,_⟩)
 .rw[hd] at h';cases h'
 .rw[hc] at h;cases h;exact h2 rfl
 .rw[hc] at h;cases h
section
variable{X:Cx}{A:Around}{target:Expr}
theorem q8{M:Model}{it:Addr}{v:Value}{o:Obj}{T:String}{vs:Array Value}{s:Shared}{Q:Unit->Shared->Prop}{E:Value->Shared->Prop}(ho:s.heap.get? it=some o)(hc:o.cls = .type T)(hd:o.data = .fields vs)
  (hT:["enumerate","zip","dict_itemiterator","dict_reverseitemiterator","odict_iterator","itertools.zip_longest","itertools.pairwise"].contains T=false)(h:Q () s) :
  wpAny M A (letOwnedTupleGo target (.ref it) v) Q E s:=by
 have go:wpAny M A (letOwnedTupleGo (.List [] ⟨0,0,0,0⟩) (.ref it) v) Q E s:=by
  cases v with
  | ref a=>
   refine G8 (wpAny_load ho ?_);rw[hc,hd];dsimp only;rw[hT];rw[Bool.false_and,if_neg (by decide)];exact G9 h
  | _=>exact G9 h
 cases target with
 | Tuple _ _ _=>exact go
 | List _ _=>exact go
 | _=>exact G9 h
inductive IsL(Y:AHeap):AV->List AV->Prop
 | ref {a:Addr} {xs:List AV}:vis Y a=some (.list xs)->IsL Y (.ref a) xs
 | lst {xs:List AV}:IsL Y (.lst xs) xs
theorem At.isList0{Y:AHeap}{s:Shared}(a:At X Y s){b:Addr}{xs:List AV}(h:Y b=some (.list xs)\/Y b=some (.frz xs)):∃vs:List Value,s.heap.IsList b vs.toArray/\RepVs Y s.heap xs vs/\xs.length<=1000000:=by
 rcases h with h|h
 .refine zm (a.rep b _ h) λvs n e r hl=>?_;exact zr vs (qn _ e rfl n rfl) r hl
 .refine zh (a.rep b _ h) λvs e r hl=>?_;exact zr vs e r hl
theorem At.isList{Y:AHeap}{s:Shared}(a:At X Y s){x:AV}{v:Value}{xs:List AV}(h:IsL Y x xs)(r:RepV Y s.heap x v):∃(b:Addr) (vs:List Value),v = .ref b/\(Y b=some (.list xs)\/Y b=some (.frz xs))/\s.heap.IsList b vs.toArray/\RepVs Y s.heap xs vs/\xs.length<=1000000:=by
 cases h with
 | @ref b _ h=>
  obtain rfl:=RepV.wM r;have h':=(zG h).1;refine zh (a.isList0 (.inl h')) λvs h1 h2 h3=>?_;exact⟨b,vs,rfl,.inl h',h1,h2,h3⟩
 | lst=>
  refine zb (RepV.wQ r) λb e4_1 h'=>?_;subst e4_1;refine zh (a.isList0 (.inr h')) λvs h1 h2 h3=>?_;exact jw b vs rfl (.inr h') h1 h2 h3
def zbE(x:AV)(xs:List AV)(Y:AHeap):Prop:=match x with
 | .ref b=>Y b=some (.list xs)
 | _=>True
def stL(x:AV)(b:Addr)(xs:List AV)(Y:AHeap):Prop:=match x with
 | .ref c=>c=b
 | _=>Y b=some (.frz xs)
theorem At.ofSt{Y:AHeap}{s:Shared}(a:At X Y s){x:AV}{b:Addr}{xs:List AV}(h:zbE x xs (vis Y))(h':stL x b xs Y):∃vs:List Value,s.heap.IsList b vs.toArray/\RepVs Y s.heap xs vs:=by
 have:Y b=some (.list xs)\/Y b=some (.frz xs):=by
  cases x with
  | ref c=>have h':c=b:=h';subst h';exact .inl (zG h).1
  | _=>exact .inr h'
 refine zh (a.isList0 this) λvs h1 h2 _=>?_;exact zc vs h1 h2
theorem stL.mono{Y Y':AHeap}{h h':Heap}(k:KeepV Y h Y' h'){x:AV}{b:Addr}{xs:List AV}(q:stL x b xs Y):stL x b xs Y':=by
 cases x with
 | ref c=>exact q
 | _=>exact k.frz _ _ q
theorem zmB(hh:A.handled=none)(it b:Addr)(x:AV)(xs:List AV):ItOk X A target (.ref it) (zbE x xs) xs (λc=>c=it) (λi Y h=>h.IsListIter it b i/\stL x b xs Y) where
 stable:=λi Y h Y' h' hp kv k=>jT hp λh1 q=>zb h1 λo ho r=>⟨⟨o,k _ _ rfl ho,r⟩,q.mono kv⟩
 there:=λi Y h c hp e=>jT hp λh1 _=>zh h1 λo ho hc hd=>by subst e;exact⟨o,ho,Plain.wC hc hd (by decide)⟩
 item:=λi x Y s Q Qn E hQn hx a hI hSt hW h=>by
  obtain⟨hSt,hq⟩:=hSt;refine zb (a.ofSt hI hq) λvs hl rv=>?_;refine zb (rv.get hx) λv hv r=>?_;refine zh (id hSt) λo ho hc hd=>?_;have nW:NoStay (λc=>c=it) s.heap:=λc o' e e'=>by subst e;rw[ho] at e';obtain rfl:=Hy e';exact(Plain.wC hc hd (by decide)).1
  have nd:∀b o,b=it->s.heap.get? b=some o->∀es n,o.data≠.dict es n:=λc o' e e'=>by subst e;rw[ho] at e';obtain rfl:=Hy e';exact(Plain.wC hc hd (by decide)).2.1
  refine wpAny_pyNext_list_item hSt hl (by simpa using hv) λh' hit' hs'=>hQn v _ ?_;refine zh (id hit') λo' ho' hc' hd'=>?_;have hk:∀c o,¬c=it->s.heap.get? c=some o->h'.get? c=some o:=λc o hc e=>(hs'.2 c hc).trans e;have kv:KeepV Y s.heap Y h':=.mk' λc o' e st=>hk c o' (λq=>nW c o' q e st) e;exact q8 ho' hc' hd' (by decide) (h v { s with heap:=h' } (r.mono kv) (a.moved (t:=s.toks) hW nW nd hk) (Step.moved Y s.toks hk (pC hs'.1.symm)) ⟨hit',hq⟩)
 done:=λY s Q E a hI hSt hW h=>by
  obtain⟨hSt,hq⟩:=hSt;refine zb (a.ofSt hI hq) λvs hl rv=>?_;refine zh (id hSt) λo ho hc hd=>?_;have nW:NoStay (λc=>c=it) s.heap:=λc o' e e'=>by subst e;rw[ho] at e';obtain rfl:=Hy e';exact(Plain.wC hc hd (by decide)).1
  have nd:∀b o,b=it->s.heap.get? b=some o->∀es n,o.data≠.dict es n:=λc o' e e'=>by subst e;rw[ho] at e';obtain rfl:=Hy e';exact(Plain.wC hc hd (by decide)).2.1
  refine zM (wpAny_pyNext_list_end hh hSt hl (by simp[rv.length]) λh' he' hsz=>?_);have hk:∀c o,¬c=it->s.heap.get? c=some o->h'.get? c=some o:=λc o hc e=>he' c o hc e;exact h { s with heap:=h' } (a.moved (t:=s.toks) hW nW nd hk) (Step.moved Y s.toks hk hsz)
 self:=λi Y s Q E hSt h=>wpAny_pyIter_listiter hSt.1 h
theorem zjR(hh:A.handled=none)(it b:Addr)(xs:List AV):ItOk X A target (.ref it) (λ_=>True) xs (λc=>c=it) (λi Y h=>h.IsTupleIter it b i/\∃vs:List Value,h.IsTuple b vs.toArray/\RepVs Y h xs vs) where
 stable:=λi Y h Y' h' hp kv k=>jT hp λh1 h2=>zb h1 λo ho r=>zb h2 λvs ht rv=>⟨⟨o,k _ _ rfl ho,r⟩,vs,kv.tup ht,rv.mono kv⟩
 there:=λi Y h c hp e=>jT hp λh1 _=>zh h1 λo ho hc hd=>by subst e;exact⟨o,ho,Plain.wC hc hd (by decide)⟩
 item:=λi x Y s Q Qn E hQn hx a hI hSt hW h=>by
  refine ko hSt λhit vs hl rv=>?_;refine zb (rv.get hx) λv hv r=>?_;refine zh (id hit) λo ho hc hd=>?_;have nW:NoStay (λc=>c=it) s.heap:=λc o' e e'=>by subst e;rw[ho] at e';obtain rfl:=Hy e';exact(Plain.wC hc hd (by decide)).1
  have nd:∀b o,b=it->s.heap.get? b=some o->∀es n,o.data≠.dict es n:=λc o' e e'=>by subst e;rw[ho] at e';obtain rfl:=Hy e';exact(Plain.wC hc hd (by decide)).2.1
  refine wpAny_pyNext_tuple_item hit hl (by simpa using hv) λh' hit' hs'=>hQn v _ ?_;refine zh (id hit') λo' ho' hc' hd'=>?_;have hk:∀c o,¬c=it->s.heap.get? c=some o->h'.get? c=some o:=λc o hc e=>(hs'.2 c hc).trans e;have kv:KeepV Y s.heap Y h':=.mk' λc o' e st=>hk c o' (λq=>nW c o' q e st) e;exact q8 ho' hc' hd' (by decide) (h v { s with heap:=h' } (r.mono kv) (a.moved (t:=s.toks) hW nW nd hk) (Step.moved Y s.toks hk (pC hs'.1.symm))
   (kP hit' vs (kv.tup hl) (rv.mono kv)))
 done:=λY s Q E a hI hSt hW h=>by
  refine ko hSt λhit vs hl rv=>?_;refine zh (id hit) λo ho hc hd=>?_;have nW:NoStay (λc=>c=it) s.heap:=λc o' e e'=>by subst e;rw[ho] at e';obtain rfl:=Hy e';exact(Plain.wC hc hd (by decide)).1
  have nd:∀b o,b=it->s.heap.get? b=some o->∀es n,o.data≠.dict es n:=λc o' e e'=>by subst e;rw[ho] at e';obtain rfl:=Hy e';exact(Plain.wC hc hd (by decide)).2.1
  refine zM (wpAny_pyNext_tuple_end hh hit hl (by simp[rv.length]) λh' he' hsz=>?_);have hk:∀c o,¬c=it->s.heap.get? c=some o->h'.get? c=some o:=λc o hc e=>he' c o hc e;exact h { s with heap:=h' } (a.moved (t:=s.toks) hW nW nd hk) (Step.moved Y s.toks hk hsz)
 self:=λi Y s Q E hSt h=>wpAny_pyIter_tupleiter hSt.1 h
noncomputable def zh7(lo:Int):Nat->List AV
 | 0=>[]
 | n+1=>.int lo::zh7 (lo+1) n
theorem zdi:∀(n:Nat) (lo:Int),(zh7 lo n).length=n
 | 0,_=>rfl
 | n+1,lo=>by simp[zh7,zdi n]
theorem zoG(n:Nat):∀(lo:Int) (i:Nat),(zh7 lo n)[i]? = if i<n then some (.int (lo+i)) else none:=by
 induction n with
 | zero=>exact λ_ i=>rfl
 | succ n ih=>
  intro lo i;cases i with
  | zero=>rw[if_pos (Nat.succ_pos _),Int.ofNat_zero,fC6];rfl
  | succ i=>
   refine(ih (lo+1) i).trans ?_;rw[show lo+1+(i:Int)=lo+((i+1:Nat):Int) from y97]
   by_cases h:i<n
   .rw[if_pos h,if_pos (zzU h)]
   .rw[if_neg h,if_neg (zAr h)]
theorem zjQ(hh:A.handled=none)(it:Addr)(lo:Int)(n:Nat):ItOk X A target (.ref it) (λ_=>True) (zh7 lo n) (λc=>c=it) (λi Y h=>IsRangeIter h it (lo+i) ((n:Int)-i) 1) where
 stable:=λi Y h Y' h' ho _ k=>k _ _ rfl ho
 there:=λi Y h c ho e=>by subst e;exact zc _ ho (Plain.wC rfl rfl (by decide))
 item:=λi x Y s Q Qn E hQn hx a hI hSt hW h=>by
  rw[zoG] at hx
  by_cases hi:i<n
  .simp only[hi,if_true,Option.some.injEq] at hx;subst hx;have nW:NoStay (λc=>c=it) s.heap:=λc o' e e'=>by subst e;rw[hSt] at e';obtain rfl:=Hy e';exact(Plain.wC (T:="range_iterator") rfl rfl (by decide)).1
   have nd:∀b o,b=it->s.heap.get? b=some o->∀es n,o.data≠.dict es n:=λc o' e e'=>by subst e;rw[hSt] at e';obtain rfl:=Hy e';exact(Plain.wC (T:="range_iterator") rfl rfl (by decide)).2.1
   refine wpAny_pyNext_range_item hSt (zAe hi) λh' hit' hs'=>hQn _ _ ?_;have hk:∀c o,¬c=it->s.heap.get? c=some o->h'.get? c=some o:=λc o hc e=>(hs'.2 c hc).trans e;have hit'':IsRangeIter h' it (lo+((i+1:Nat):Int)) ((n:Int)-((i+1:Nat):Int)) 1:=by
    have e1:lo+((i+1:Nat):Int)=lo+(i:Int)+1:=y98;have e2:(n:Int)-((i+1:Nat):Int)=(n:Int)-(i:Int)-1:=zAw;rw[e1,e2];exact hit'
   exact q8 hit' rfl rfl (by decide) (h _ { s with heap:=h',toks:=s.toks+1 } (.int _ _) (a.moved (t:=s.toks+1) hW nW nd hk) (Step.moved Y (s.toks+1) hk (pC hs'.1.symm)) hit'')
  .simp[hi] at hx
 done:=λY s Q E a hI hSt hW h=>by
  rw[zdi] at hSt;have nW:NoStay (λc=>c=it) s.heap:=λc o' e e'=>by subst e;rw[hSt] at e';obtain rfl:=Hy e';exact(Plain.wC (T:="range_iterator") rfl rfl (by decide)).1
  have nd:∀b o,b=it->s.heap.get? b=some o->∀es n,o.data≠.dict es n:=λc o' e e'=>by subst e;rw[hSt] at e';obtain rfl:=Hy e';exact(Plain.wC (T:="range_iterator") rfl rfl (by decide)).2.1
  refine zM (wpAny_pyNext_range_end hh hSt zzb λh' he' hsz=>?_);have hk:∀c o,¬c=it->s.heap.get? c=some o->h'.get? c=some o:=λc o hc e=>he' c o hc e;exact h { s with heap:=h' } (a.moved (t:=s.toks) hW nW nd hk) (Step.moved Y s.toks hk hsz)
 self:=λi Y s Q E hSt h=>wpAny_pyIter_rangeiter hSt h
noncomputable def zcd(k:Nat):List AV->List AV
 | []=>[]
 | x::xs=>.tup [.int k,x]::zcd (k+1) xs
theorem zce:∀(xs:List AV) (k:Nat),(zcd k xs).length=xs.length
 | [],_=>rfl
 | _::xs,k=>by simp[zcd,zce xs]
theorem zfC:∀(xs:List AV) (k i:Nat),(zcd k xs)[i]? = xs[i]?.map λx=>.tup [.int ((k+i:Nat):Int),x]
 | [],_,i=>rfl
 | x::xs,k,0=>rfl
 | x::xs,k,i+1=>by
  simp only[zcd,fAS,zfC xs];have:k+1+i=k+(i+1):=ztU;rw[this]
theorem zmA(hh:A.handled=none){elts:List Expr}{x1:Nat}{pos:Pos}(e it b:Addr)(hne:e≠it)(x:AV)(xs:List AV) :
  ItOk X A (.Tuple elts x1 pos) (.ref e) (zbE x xs) (zcd 0 xs) (λc=>c=e\/c=it) (λi Y h=>h.IsListIter it b i/\stL x b xs Y/\∃old,IsEnum h e it i old) where
 stable:=λi Y h Y' h' ⟨⟨o,ho,r⟩,q,old,he⟩ kv k=>⟨⟨o,k _ _ (.inr rfl) ho,r⟩,q.mono kv,old,k _ _ (.inl rfl) he⟩
 there:=λi Y h c ⟨⟨o,ho,hc,hd⟩,_,old,he⟩ q=>by
  rcases q with rfl|rfl
  .exact zc _ he (Plain.wC rfl rfl (by decide))
  .exact zc o ho (Plain.wC hc hd (by decide))
 item:=λi x Y s Q Qn E hQn hx a hI hSt hW h=>by
  refine kN hSt λhit hq old he=>?_;refine zb (a.ofSt hI hq) λvs hl rv=>?_;rw[zfC] at hx;refine zb (fAX.mp hx) λy hy e23_2=>?_;subst e23_2;refine zb (rv.get hy) λv hv r=>?_;refine zh (id hit) λo ho hc hd=>?_;have nW:NoStay (λc=>c=e\/c=it) s.heap:=λc o' q e'=>by
   rcases q with rfl|rfl
   .rw[he] at e';obtain rfl:=Hy e';exact(Plain.wC (T:="enumerate") rfl rfl (by decide)).1
   .rw[ho] at e';obtain rfl:=Hy e';exact(Plain.wC hc hd (by decide)).1
  have nd:∀b o,b=e\/b=it->s.heap.get? b=some o->∀es n,o.data≠.dict es n:=λc o' q e'=>by
   rcases q with rfl|rfl
   .rw[he] at e';obtain rfl:=Hy e';exact(Plain.wC (T:="enumerate") rfl rfl (by decide)).2.1
   .rw[ho] at e';obtain rfl:=Hy e';exact(Plain.wC hc hd (by decide)).2.1
  refine wpAny_pyNext_enum_item he hit hl (by simpa using hv) hne λh' he' hit' htup hsz hk=>hQn _ _ ?_;refine wpAny_letOwnedTupleGo_enum he' λh'' he'' hs''=>?_;have hk':∀c o,¬(c=e\/c=it)->s.heap.get? c=some o->h''.get? c=some o:=λc o hc eo=>by
   have h1:c≠e:=λq=>hc (.inl q);have h2:c≠it:=λq=>hc (.inr q);exact(hs''.2 c h1).trans (hk c o h1 h2 eo)
  have kv:KeepV Y s.heap Y h'':=.mk' λc o' e st=>hk' c o' (λq=>nW c o' q e st) e;have hes:s.heap.objs.size≠e:=fC8 (Heap.lt_size he);have hit'':h''.IsListIter it b (i+1):=by
   refine zb hit' λo3 ho3 r3=>?_;exact zc o3 ((hs''.2 it (Ne.symm hne)).trans ho3) r3
  refine h (.ref s.heap.objs.size) { s with heap:=h'',toks:=s.toks+1 } (.tup (vs:=[.int i s.toks,v]) (by simp) (qn _ ((hs''.2 _ hes).trans htup) rfl 0 rfl) (.cons ?_ (.cons (r.mono kv) .nil)))
   (a.moved (t:=s.toks+1) hW nW nd hk') (Step.moved Y (s.toks+1) hk' (by rw[hs''.1,hsz];exact zzm)) (zay hit'' hq v ?_)
  .have:((0+i:Nat):Int)=(i:Int):=by exact zy8
   rw[this];exact .int _ _
  .have:((i+1:Nat):Int)=(i:Int)+1:=by exact zy9
   exact he''
 done:=λY s Q E a hI hSt hW h=>by
  rw[zce] at hSt;refine kN hSt λhit hq old he=>?_;refine zb (a.ofSt hI hq) λvs hl rv=>?_;refine zh (id hit) λo ho hc hd=>?_;have nW:NoStay (λc=>c=e\/c=it) s.heap:=λc o' q e'=>by
   rcases q with rfl|rfl
   .rw[he] at e';obtain rfl:=Hy e';exact(Plain.wC (T:="enumerate") rfl rfl (by decide)).1
   .rw[ho] at e';obtain rfl:=Hy e';exact(Plain.wC hc hd (by decide)).1
  have nd:∀b o,b=e\/b=it->s.heap.get? b=some o->∀es n,o.data≠.dict es n:=λc o' q e'=>by
   rcases q with rfl|rfl
   .rw[he] at e';obtain rfl:=Hy e';exact(Plain.wC (T:="enumerate") rfl rfl (by decide)).2.1
   .rw[ho] at e';obtain rfl:=Hy e';exact(Plain.wC hc hd (by decide)).2.1
  refine zM (wpAny_pyNext_enum_end hh he hit hl (by simp[rv.length]) λh' he' hsz=>?_);have hk:∀c o,¬(c=e\/c=it)->s.heap.get? c=some o->h'.get? c=some o:=λc o hc e=>he' c o (λq=>hc (.inr q)) e;exact h { s with heap:=h' } (a.moved (t:=s.toks) hW nW nd hk) (Step.moved Y s.toks hk hsz)
 self:=λi Y s Q E hSt h=>by
  refine kN hSt λ_ _ old he=>?_;exact wpAny_pyIter_enum he h
end
noncomputable def cl1(cells:List (Str×Addr))(p:Str×NameKind)(acc:List (Str×Addr)):List (Str×Addr):=if p.2==.free then (match cells.lookup p.1 with|some c=>(p.1,c)::acc|none=>acc) else acc
noncomputable def clo(cells:List (Str×Addr))(names:List (Str×NameKind))(acc:List (Str×Addr)):List (Str×Addr):=names.foldl (λa p=>cl1 cells p a) acc
theorem zgt(cells:List (Str×Addr))(p:Str×NameKind)(acc:List (Str×Addr)):(cl1 cells p acc=acc/\(p.2 = .free->cells.lookup p.1=none))\/∃c,p.2 = .free/\cells.lookup p.1=some c/\cl1 cells p acc=(p.1,c)::acc:=by
 unfold cl1;cases hk:p.2==NameKind.free with
 | true=>
  cases hy:cells.lookup p.1 with
  | none=>exact .inl ⟨rfl,λ_=>rfl⟩
  | some c=>exact .inr ⟨c,H3 hk,rfl,rfl⟩
 | false=>exact .inl ⟨rfl,λe=>by rw[e] at hk;cases hk⟩
theorem zhM{env:Env}(f:Str×NameKind->List (Str×Addr)->Sem (ForInStep (List (Str×Addr))))
  (hf:∀n k cs,f (n,k) cs=if k==.free then (do let c <-cellOf env n;pure (.yield ((n,c)::cs))) else pure (.yield cs))(names:List (Str×NameKind)) :
  ∀(acc:List (Str×Addr)),(∀x,(x,NameKind.free)∈names->(env.cells.lookup x).isSome=true)->(forIn names acc f:Sem (List (Str×Addr)))=pure (clo env.cells names acc):=by
 induction names with
 | nil=>exact λ_ _=>rfl
 | cons p r ih=>
  intro acc h;have e:f p acc=pure (.yield (cl1 env.cells p acc)):=by
   refine(hf p.1 p.2 acc).trans ?_;unfold cl1;cases hk:p.2==NameKind.free with
   | false=>rfl
   | true=>
    obtain⟨c,hc⟩:=fAA.mp (h p.1 (by rw[<-H3 hk];exact fA));unfold cellOf;rw[hc];rfl
  rw[List.forIn_cons,e];exact ih _ λy hy=>h y (fB _ hy)
theorem za5{scope:Scope}{env:Env}(h:∀x,(x,NameKind.free)∈scope.names->(env.cells.lookup x).isSome=true):closureFor scope env=pure (clo env.cells scope.names []):=by
 unfold closureFor;simp only[bind_pure_comp];rw[zhM (env:=env) _ (λn k cs=>?_) scope.names [] h]
 .rfl
 .simp
theorem zlb{cells:List (Str×Addr)}(names:List (Str×NameKind)):∀(acc:List (Str×Addr)) {x:Str} {c:Addr},(x,c)∈clo cells names acc->(x,c)∈acc\/(cells.lookup x=some c/\(x,NameKind.free)∈names):=by
 induction names with
 | nil=>exact λ_ _ _ h=>.inl h
 | cons p r ih=>
  intro acc x c h
  rcases ih (cl1 cells p acc) h with q|q
  .rcases zgt cells p acc with e|⟨d,hk,hy,e⟩
   .rw[e.1] at q;exact .inl q
   .rw[e] at q
    rcases fJ.mp q with e|q
    .have e1:x=p.1:=congrArg Prod.fst e;have e2:c=d:=congrArg Prod.snd e;rw[e1,e2,<-hk];exact .inr ⟨hy,fA⟩
    .exact .inl q
  .exact .inr ⟨q.1,fB _ q.2⟩
theorem zqv{cells:List (Str×Addr)}(names:List (Str×NameKind)):∀(acc:List (Str×Addr)) {p:Str×Addr},p∈acc->p∈clo cells names acc:=by
 induction names with
 | nil=>exact λ_ _ h=>h
 | cons q r ih=>
  intro acc p h
  rcases zgt cells q acc with e|⟨d,_,_,e⟩
  .exact ih (cl1 cells q acc) (e.1.symm▸h)
  .exact ih (cl1 cells q acc) (e▸fB _ h)
theorem zjB{cells:List (Str×Addr)}{x:Str}{c:Addr}(hc:cells.lookup x=some c)(names:List (Str×NameKind)):∀(acc:List (Str×Addr)),(x,NameKind.free)∈names->(x,c)∈clo cells names acc:=by
 induction names with
 | nil=>exact λ_ h=>nomatch h
 | cons p r ih=>
  intro acc h
  rcases fJ.mp h with e|h
  .subst e;refine zqv r _ ?_;show _∈(match cells.lookup x with|some c=>(x,c)::acc|none=>acc);rw[hc];exact fA
  .exact ih _ h
theorem zmh{cells:List (Str×Addr)}(hp:cells.Pairwise λx y=>x.2≠y.2)(names:List (Str×NameKind)):∀(acc:List (Str×Addr)),(names.map (·.1)).Nodup->(∀x∈acc,cells.lookup x.1=some x.2/\x.1∉names.map (·.1))->
  (acc.Pairwise λx y=>x.2≠y.2)->(clo cells names acc).Pairwise λx y=>x.2≠y.2:=by
 induction names with
 | nil=>exact λ_ _ _ h=>h
 | cons p r ih=>
  intro acc hn ha h;have hn':=fQ.mp hn;have ha':∀x∈acc,cells.lookup x.1=some x.2/\x.1∉r.map (·.1):=λx hx=>⟨(ha x hx).1,λq=>(ha x hx).2 (fB _ q)⟩
  refine ih (cl1 cells p acc) hn'.2 ?_ ?_
  .rcases zgt cells p acc with e|⟨d,_,hy,e⟩
   .rw[e.1];exact ha'
   .rw[e];exact fM.mpr ⟨⟨hy,hn'.1⟩,ha'⟩
  .rcases zgt cells p acc with e|⟨d,_,hy,e⟩
   .rw[e.1];exact h
   .rw[e];refine gE.mpr ⟨λq hq e=>?_,h⟩;have h1:=(ha q hq).1;rw[<-show d=q.2 from e] at h1;exact(ha q hq).2 (name_of_addr hp (mem_of_lookup hy) (mem_of_lookup h1)▸fA)
structure CompOk(sc:List (Str×NameKind))(nm:List (Str×Nat))(N:Nat)(names:List (Str×NameKind))(nm':List (Str×Nat))(k:Nat):Prop where
 nodup:(names.map (·.1)).Nodup
 kinds:∀x kd,(x,kd)∈names->kd = .local\/kd = .globalImplicit\/(kd = .free/\sc.lookup x=some .cell/\∃i,nm.lookup x=some i/\nm'.lookup x=some i)
 vars:∀x i,nm'.lookup x=some i->(names.lookup x=some .local/\N<=i/\i<N+k)\/(names.lookup x=some .free/\nm.lookup x=some i)
 inj:∀x y i,nm'.lookup x=some i->nm'.lookup y=some i->x=y
 len:kC nm'=N+k
theorem kE{α:Type}:∀{l:List (Str×α)} {n:Str} {c:α},l.lookup n=some c->(n,c)∈l:=mem_of_lookup
theorem jP{α:Type}{r:List (Str×α)}{n k:Str}{v:α}(h:n≠k):List.lookup n ((k,v)::r)=r.lookup n:=by rw[pG,beq_eq_false_iff_ne.mpr h]
theorem j9{α:Type}{l:List (Str×α)}{n:Str}{c:α}:(l.map (·.1)).Nodup->(n,c)∈l->l.lookup n=some c:=by
 induction l with
 | nil=>exact λ_ h=>nomatch h
 | cons p r ih=>
  intro hn h;have hn':=fQ.mp hn
  rcases fJ.mp h with e|h
  .rw[<-e,pG,beq_self_eq_true]
  .exact(jP λe:n=p.1=>hn'.1 (show p.1∈_ from e▸gS (f:=(·.1)) h)).trans (ih hn'.2 h)
section
variable{X:Cx}{env:Env}{nm nm':List (Str×Nat)}{l:Loc}{Y:AHeap}{s:Shared}{scope:Scope}{N k:Nat}
theorem zcE(EO:EnvOk env)(CK:CompOk env.scope.names nm N scope.names nm' k)(cl:List (Str×Addr))(C:Addr)(x:Str) :
  (scope.names.lookup x=some .local->(compEnvC scope cl C env).kindOf x=some .local)/\(scope.names.lookup x=some .free->(compEnvC scope cl C env).kindOf x=some .cell):=by
 have gen:∀(names:List (Str×NameKind)),(∀x,(x,NameKind.free)∈names->env.kindOf x=some .cell)->
   (names.lookup x=some .local->(names.map λ(n,k)=>if (k==NameKind.free&&env.scope.kind==.function&&env.kindOf n==some .cell) then (n,NameKind.cell) else (n,k)).lookup x=some .local)/\
   (names.lookup x=some .free->(names.map λ(n,k)=>if (k==NameKind.free&&env.scope.kind==.function&&env.kindOf n==some .cell) then (n,NameKind.cell) else (n,k)).lookup x=some .cell):=by
  intro names
  induction names with
  | nil=>intro _;exact⟨λh=>by simp at h,λh=>by simp at h⟩
  | cons p r ih=>
   intro hk;obtain⟨n,kd⟩:=p;have ih':=ih λy hy=>hk y (fB _ hy);simp only[gJ,pG]
   by_cases hx:(x==n)=true
   .have hxn:=beq_iff_eq.mp hx;subst hxn;simp only[beq_self_eq_true];refine⟨λh=>?_,λh=>?_⟩
    .obtain rfl:=Hy h;simp
    .obtain rfl:=Hy h;have:=hk x fA;simp[EO.kind,this]
   .have hx':(x==n)=false:=by simpa using hx
    simp only[hx']
    by_cases hc:(kd==NameKind.free&&env.scope.kind==.function&&env.kindOf n==some .cell)=true
    .rw[if_pos hc,pG,hx'];exact ih'
    .rw[if_neg hc,pG,hx'];exact ih'
 refine gen scope.names λy hy=>?_
 rcases CK.kinds y .free hy with h|h|⟨_,h,_⟩
 .cases h
 .cases h
 .exact h
theorem CompOk.closure(F:FR X env nm l Y s.heap)(CK:CompOk env.scope.names nm N scope.names nm' k):∀x,(x,NameKind.free)∈scope.names->(env.cells.lookup x).isSome=true:=λx hx=>by
 rcases CK.kinds x .free hx with h|h|⟨_,h,i,hi,_⟩
 .cases h
 .cases h
 .refine js (F.cell x i hi h) λc v hc _=>?_;rw[hc];rfl
theorem zjF(EO:EnvOk env)(CK:CompOk env.scope.names nm N scope.names nm' k)(hk:scope.kind = .function)(C:Addr):EnvOk (compEnvC scope (clo env.cells scope.names []) C env) where
 kind:=hk
 glob:=EO.glob
 bi:=EO.bi
 apart:=zmh EO.apart _ _ CK.nodup (λ_ h=>nomatch h) .nil
theorem zqD(EO:EnvOk env)(F:FR X env nm l Y s.heap)(hl:l.length=N)(CK:CompOk env.scope.names nm N scope.names nm' k){h':Heap}{C:Addr}(hk:∀b o,s.heap.get? b=some o->h'.get? b=some o)
  (hC:h'.Ns C λ_=>none)(hσC:Y C=none)(hCnew:X.h₀.get? C=none) :
  FR X (compEnvC scope (clo env.cells scope.names []) C env) nm' (l++List.replicate k none) Y h':=by
 have kv:KeepV Y s.heap Y h':=.ext hk;refine⟨(zc _ hC (λx i hx hkx=>?_)),λx i hx hkx=>?_,⟨hσC,hCnew⟩,⟨λx i hx=>?_,CK.inj⟩,by rw[fF,fBH,hl,CK.len],λx c hx=>?_⟩
 .rcases CK.vars x i hx with⟨_,h1,h2⟩|⟨h1,_⟩
  .have:(l++List.replicate k none).getD i none=none:=by
    rw[fS,pN (by exact zrU hl h1),List.getElem?_replicate];split<;>rfl
   rw[this];trivial
  .rw[(zcE EO CK _ C x).2 h1] at hkx;cases hkx
 .rcases CK.vars x i hx with⟨h1,_⟩|⟨h1,h2⟩
  .rw[(zcE EO CK _ C x).1 h1] at hkx;cases hkx
  .have hm:=kE h1
   rcases CK.kinds x .free hm with h|h|⟨_,h,_⟩
   .cases h
   .cases h
   .refine zm (F.cell x i h2 h) λc v hc hcc hr=>?_;refine zN c v ?_ (hcc.keeps hk) ?_
    .have h3:(x,c)∈clo env.cells scope.names []:=zjB hc _ _ hm;cases h4:(clo env.cells scope.names []).lookup x with
     | none=>
      exfalso;have:=List.lookup_eq_none_iff.mp h4 (x,c) h3;simp at this
     | some c'=>
      rcases zlb _ _ (kE h4) with q|⟨q,_⟩
      .cases q
      .rw[hc] at q;obtain rfl:=Hy q;exact h4
    .have hi:i<l.length:=F.nmok.1 x i h2;rw[fS,pF hi,<-fS];exact hr.mono kv
 .rw[fF,fBH,hl]
  rcases CK.vars x i hx with⟨_,h1,h2⟩|⟨_,h2⟩
  .exact zwM h2
  .have:=F.nmok.1 x i h2;exact zFB hl this
 .rcases zlb _ _ hx with q|⟨q,_⟩
  .cases q
  .refine kN (F.outc x c (kE q)) λh1 h2 v h3=>?_;exact zay h1 h2 v (h3.keeps hk)
end
def zsn(c:Option AE)(d:Dp)(l:Loc)(Q:Bool->AHeap->Prop)(Y:AHeap):Prop:=
 match c with
 | none=>Q true Y
 | some m=>m d l (isB Q) (λ_ _=>False) Y
noncomputable def za6(I:AHeap->Prop)(t:Tgt)(c:Option AE)(elt:AE)(d:Dp)(Q:List AV->AHeap->Prop):List AV->List AV->Loc->AHeap->Prop
 | [],acc,l,Y=>Q acc Y
 | x::xs,acc,l,Y=>∃l',jL t x l=some l'/\zsn c d l' (λok Y1=>cB ok (elt d l' (λv Y2=>I Y2/\acc.length<1000000/\za6 I t c elt d Q xs (acc++[v]) l' Y2) (λ_ _=>False) Y1)
   (I Y1/\za6 I t c elt d Q xs acc l' Y1)) Y
noncomputable def zgf(X:Cx)(env:Env)(nm:List (Str×Nat)):List Expr->Option AE->Prop
 | [],none=>True
 | [e],some m=>qS X env nm e m
 | _,_=>False
theorem zbk(vs:List Value)(n:Nat):¬qL (zS vs n):=by
 rintro(⟨h,_⟩|⟨h,_⟩|⟨_,_,h,_⟩)<;>simp[zS] at h
theorem zcx(vs:List Value)(n:Nat):∀es m,(zS vs n).data≠.dict es m:=λ_ _=>nofun
theorem ltA{h:Heap}{a:Nat}{o:Obj}(e:h.get? a=some o):a<h.objs.size:=Heap.lt_size e
theorem neA{a b:Nat}(h:¬a=b):¬a=b:=h
theorem leA{a b:Nat}(h:a<=b):a<=b:=h
section
variable{X:Cx}{A:Around}
theorem zfd{elt target iter:Expr}{ifs:List Expr}{scope:Scope}{pos:Pos}{it acc:Value}{env:Env}{R:Result->Shared->Prop}{s:Shared}(J:Nat->Shared->Prop)
  (turn:∀n s,J n s->wpAny X.M A (pyNext it) (λr s₁=>match r with
   | none=>R (.ok .next) s₁
   | some v=>wpAny X.M A (letOwnedTupleGo target it v) (λ_ s₁'=>wpAny X.M A (assign target env v) (λ_ s₂=>
     wpAny X.M A (forIn ifs true λc r=>if r=true then do let ok <-isTrue c env (eval c env);pure (ForInStep.yield ok) else pure (ForInStep.yield r)) (λok s₃=>
      if ok=true then wpAny X.M A (eval elt env) (λx s₄=>wpAny X.M A (call (.builtin "list.append") [acc,x]) (λ_ s₅=>∃m,m<n/\J m s₅) (λ_ _=>False) s₄) (λ_ _=>False) s₃
      else ∃m,m<n/\J m s₃) (λ_ _=>False) s₂) (λ_ _=>False) s₁') (λ_ _=>False) s₁) (λ_ _=>False) s)
  (n:Nat)(h:J n s):Hk X.M A (.compLoop (.ListComp elt [⟨target,iter,ifs,0⟩] scope pos) 0 it acc env) R s:=by
 refine codeAny_loop rfl J (λn s hI=>?_) n h;show wpAny _ A ((compTurn (.ListComp elt [⟨target,iter,ifs,0⟩] scope pos) 0 it acc env).onRaise (λx=>do noteFrame x env;theTreesLotGoes x)) _ _ s;refine wpAny_noted ?_;rw[compTurn_list];refine G8 (Hi (G8 (Ha (turn n s hI) (λr s₁ h₁=>?_) λ_ _ h'=>h'.elim)));cases r with
 | none=>exact G9 h₁
 | some v=>
  refine G8 (Ha h₁ (λ_ s₁' h₁'=>?_) λ_ _ h'=>h'.elim);refine G8 (Ha h₁' (λ_ s₂ h₂=>G8 (Ha h₂ (λok s₃ h₃=>?_) λ_ _ h'=>h'.elim)) λ_ _ h'=>h'.elim);cases ok with
  | false=>exact G9 ⟨rfl,h₃⟩
  | true=>
   exact G8 (G8 (Ha h₃ (λx s₄ h₄=>G8 (Ha h₄ (λ_ s₅ h₅=>G9 (G9 ⟨rfl,h₅⟩)) λ_ _ h'=>h'.elim)) λ_ _ h'=>h'.elim))
theorem zi8{env:Env}{nm:List (Str×Nat)}{ifs:List Expr}{c:Option AE}{d:Dp}{l:Loc}{Y:AHeap}{s:Shared}{Q:Bool->AHeap->Prop}{R:Bool->Shared->Prop}(hc:zgf X env nm ifs c)(L:Live X d A)(a:At X Y s)(F:FR X env nm l Y s.heap)
  (h:zsn c d l Q (vis Y))(k:∀b s',liftB X Y s Q b s'->R b s') :
  wpAny X.M A (forIn ifs true λc r=>if r=true then do let ok <-isTrue c env (eval c env);pure (ForInStep.yield ok) else pure (ForInStep.yield r)) R (λ_ _=>False) s:=by
 match ifs,c,hc with
 | [],none,_=>exact wpAny_tests_nil (k _ _ (zr Y a (.refl ..) h))
 | [e],some m,hc=>exact wpAny_tests_one (Ha (hc d A l Y s Q (λ_ _=>False) L a F h) (λb s' x=>k b s' x) λ_ _ x=>noX x)
theorem At.adopt{Y:AHeap}{s:Shared}(a:At X Y s){D:Addr}{ao:AO}(hD:Y D=none)(h0:X.h₀.get? D=none)(hL':D∉X.fr)(hr:KeepV Y s.heap (Y.set D ao) s.heap->RepA X (Y.set D ao) s.heap D ao):At X (Y.set D ao) s:=by
 have kv:KeepV Y s.heap (Y.set D ao) s.heap:=(KeepV.ext λ_ _ e=>e).set (zg0 hD);refine⟨a.keep,λb bo e=>?_,λb bo e hro=>?_,a.gens,a.os,λL hL=>⟨?_,(a.ff L hL).2⟩⟩
 .by_cases hb:b=D
  .subst hb;rw[AHeap.wA] at e;obtain rfl:=Hy e;exact hr kv
  .rw[AHeap.wB _ _ hb] at e;exact(a.rep b bo e).mono kv λ_ h=>h
 .by_cases hb:b=D
  .subst hb;exact h0
  .rw[AHeap.wB _ _ hb] at e;exact a.own b bo e hro
 .rw[AHeap.wB _ _ (by rintro rfl;exact hL' hL)];exact(a.ff L hL).1
theorem Step.adopt{B:Addr->Prop}{Y Y':AHeap}{s s':Shared}(st:Step B Y s Y' s'){D:Addr}{ao:AO}(hD:Y' D=none)(hn:s.heap.objs.size<=D):Step B Y s (Y'.set D ao) s':=
 ⟨st.keep,st.keepD,λb h1 h2=>by
  by_cases hb:b=D
  .rw[hb];exact hn
  .rw[AHeap.wB _ _ hb] at h1;exact st.fresh b h1 h2,st.size,λb xs e=>zdS (zg0 hD) b xs (st.frz b xs e)⟩
theorem zfA{env:Env}{nm nm':List (Str×Nat)}{l:Loc}{Y:AHeap}{s:Shared}{N k:Nat}{d:Dp}{elt target iter:Expr}{ifs:List Expr}{scope:Scope}{pos:Pos}{it:Value}{I:AHeap->Prop}{xs:List AV}{W:Addr->Prop}
  {St:Nat->AHeap->Heap->Prop}{t:Tgt}{c:Option AE}{m:AE}{Q:List AV->AHeap->Prop}{RR:Value->Addr->Result->Shared->Prop}{E:Value->Shared->Prop}
  (EO:EnvOk env)(L:Live X d A)(hdd:d.hd=false)(a:At X Y s)(F:FR X env nm l Y s.heap)(hl:l.length=N)(CK:CompOk env.scope.names nm N scope.names nm' k)(hk:scope.kind = .function)
  (IT:ItOk X A target it I xs W St)(hSt:St 0 Y s.heap)(hW:∀b,W b->Y b=none/\X.h₀.get? b=none)(hI:I (vis Y))
  (ht:∀C,za1 (λb=>b=C) X (compEnvC scope (clo env.cells scope.names []) C env) nm' target t)(hc:∀C,zgf X (compEnvC scope (clo env.cells scope.names []) C env) nm' ifs c)(hm:∀C,zi X (compEnvC scope (clo env.cells scope.names []) C env) nm' elt m)
  (h:za6 I t c m d Q xs [] (l++List.replicate k none) (vis Y))
  (hRR:∀D C s' Y' acc mC,D∉X.fr->s.heap.objs.size<=D->s.heap.objs.size<=C->D≠C->Y' D=none->Y' C=none->s'.heap.Ns C mC->(∃ys n,s'.heap.get? D=some (zS ys n)/\RepVs Y' s'.heap acc ys/\acc.length<=1000000)->At X Y' s'->Step W Y s Y' s'->Q acc (vis Y')->RR (.ref D) C (.ok .next) s') :
  wpAny X.M A (newList []) (λacc s₃=>wpAny X.M A (newFunctionEnv scope env.globals (clo env.cells scope.names []) [] env.qual none .none (some env)) (λcenv s₄=>
   Hk X.M A (.compStart (.ListComp elt [⟨target,iter,ifs,0⟩] scope pos) 0 it acc { cenv with scope:=relabel scope env }) (RR acc cenv.locals) s₄) E s₃) E s:=by
 have hcell:∀y∈scope.names,y.2≠.cell:=λy hy e=>by
  obtain⟨x,kd⟩:=y
  rcases CK.kinds x kd hy with h|h|⟨h,_⟩<;>(dsimp only at e;rw[h] at e;cases e)
 refine wpAny_newObj_type (wpAny_newFunctionEnv hcell (by intro y hy;simp at hy) (λh₁ hns₁ hsb₁=>?_) hk);dsimp only at hns₁ hsb₁ ⊢;generalize hH2:s.heap.push { cls:=.type "list",dict:=none,data:=.seq ([]:List Value).toArray }=H2 at hns₁ hsb₁ ⊢;generalize hDD:s.heap.objs.size=D;generalize hCC:H2.objs.size=C at hns₁ hsb₁ ⊢;have hCD:C=D+1:=by rw[<-hCC,<-hH2,Heap.size_push,hDD]
 have old:∀b o,s.heap.get? b=some o->h₁.get? b=some o:=λb o e=>by
  have hb:=ltA e;exact hsb₁.extBut b o (neA (zCR hDD hCD hb)) (Heap.get?_push_of_some _ (hH2▸Heap.get?_push_of_some _ e))
 have hDobj:h₁.get? D=some (zS [] 0):=by
  refine hsb₁.extBut _ _ (neA (zww hCD)) (Heap.get?_push_of_some _ ?_);rw[<-hH2,<-hDD];exact Heap.get?_push_size _ rfl
 have hσ:∀b,D<=b->Y b=none:=λb hb=>a.none_of_size (by rw[hDD];exact hb);have hDfr:D∉X.fr:=λq=>by
  refine zd8 (a.ff D q) λ_ o _ _ e _=>?_;have:=ltA e;exact zwp hDD this
 have hh₀:∀b,D<=b->X.h₀.get? b=none:=λb hb=>by
  cases e:X.h₀.get? b with
  | none=>rfl
  | some o=>have:=ltA (a.keep b o e);lia
 generalize hs1:({ s with heap:=h₁,toks:=s.toks+([]:List (Str×Value)).length }:Shared)=s1;have hs1h:s1.heap=h₁:=by rw[<-hs1]
 have hsz1:s1.heap.objs.size=C+1:=by rw[hs1h,hsb₁.1];simp[hCC]
 have kv1:KeepV Y s.heap Y s1.heap:=.ext λb o e=>by rw[hs1h];exact old b o e
 have a1:At X Y s1:=by
  refine⟨λb o e=>by rw[hs1h];exact old b o (a.keep b o e),λb ao e=>(a.rep b ao e).mono kv1 λo ho=>by rw[hs1h];exact old b o ho,a.own,?_,?_,a.ffk λb o e=>by rw[hs1h];exact old b o e⟩
  .rw[<-hs1];exact a.gens
  .rw[<-hs1];exact a.os
 have F1:=zqD (X:=X) EO F hl CK (h':=s1.heap) (C:=C) (λb o e=>by rw[hs1h];exact old b o e) (by rw[hs1h];exact hns₁) (hσ C (zqf hCD)) (hh₀ C (zqf hCD));have hSt1:St 0 Y s1.heap:=IT.stable _ _ _ _ _ hSt kv1 λb o _ e=>by rw[hs1h];exact old b o e
 let W':Addr->Prop:=λb=>W b\/D<=b
 have st1:Step W' Y s Y s1:=.same (λb o e _=>by rw[hs1h];exact old b o e) (by rw[hsz1,hDD];exact zAh hCD);have loop:Hk X.M A (.compLoop (.ListComp elt [⟨target,iter,ifs,0⟩] scope pos) 0 it (.ref D) (compEnvC scope (clo env.cells scope.names []) C env)) (RR (.ref D) C) s1:=by
  refine zfd (λj s2=>∃i l2 Y2 acc ys n,j=xs.length+1-i/\i<=xs.length/\At X Y2 s2/\FR X (compEnvC scope (clo env.cells scope.names []) C env) nm' l2 Y2 s2.heap/\Step W' Y s Y2 s2/\I (vis Y2)/\St i Y2 s2.heap/\
   (∀b,W b->Y2 b=none/\X.h₀.get? b=none)/\Y2 D=none/\s2.heap.get? D=some (zS ys n)/\RepVs Y2 s2.heap acc ys/\acc.length<=1000000/\C<s2.heap.objs.size/\za6 I t c m d Q (xs.drop i) acc l2 (vis Y2)) ?_ (xs.length+1)
   (zaB 0 _ Y [] [] 0 rfl (fX _) a1 F1 st1 hI hSt1 hW (hσ D (fN _)) (by rw[hs1h];exact hDobj) .nil (fX _) (zAf hsz1) h)
  intro j s2 hR1;refine zau hR1 λi l2 Y2 acc ys n e1_6 hi a2 F2 st2 hI2 hSt2 hW2 hD2 hDo rys hacc2 hC2 hf=>?_;subst e1_6;have noW:NoStay W s2.heap:=λb o hb e=>by refine zh (IT.there i _ _ b hSt2 hb) λo' e' h' _=>?_;rw[e] at e';obtain rfl:=Hy e';exact h'
  have ndW:∀{i Y h b o},St i Y h->W b->h.get? b=some o->∀es n,o.data≠.dict es n:=λ{i Y h b o} hs hb e=>by
   refine zE (IT.there i _ _ b hs hb) λo' e' _ h1 _=>?_;rw[e] at e';obtain rfl:=Hy e';exact h1
  have dis:∀b,FB (compEnvC scope (clo env.cells scope.names []) C env) b->¬W b:=λb hb hw=>by
   refine zE (IT.there i _ _ b hSt2 hw) λo' e' _ h1 h2=>?_
   rcases hb with hb|⟨x,hx⟩
   .refine zb F2.ns λ_ h5_1 _=>?_;refine jt h5_1 λo es ep ho hd _=>?_;rw[<-hb,e'] at ho;obtain rfl:=Hy ho;exact h1 _ _ hd
   .refine zcc (F2.outc x b hx) λ_ _ v o ho hd=>?_;rw[ho] at e';obtain rfl:=Hy e';exact h2 _ hd
  have disD:¬W D:=λhw=>by
   refine zb (IT.there 0 _ _ D hSt hw) λo' e' _=>?_;have:=ltA e';exact zwp hDD this
  have hDF:¬FB (compEnvC scope (clo env.cells scope.names []) C env) D:=λhb=>by
   rcases hb with h|⟨x,hx⟩
   .have h:D=C:=h;exact zzW hCD h
   .refine zcc (F2.outc x D hx) λ_ _ v o ho hd=>?_;rw[hDo] at ho;obtain rfl:=Hy ho;cases hd
  cases hx:xs[i]? with
  | none=>
   have hil:i=xs.length:=fBG hi (fCS.mp hx);subst hil;refine IT.done Y2 s2 _ _ a2 hI2 hSt2 hW2 λs3 a3 st3=>?_;rw[List.drop_length] at hf;refine zb ((F2.stepB a2 st3 dis noW).ns) λmC hmC _=>?_;have hDo3:s3.heap.get? D=some (zS ys n):=st3.keep _ _ hDo hD2 disD (zcx _ _);have kv3:KeepV Y2 s2.heap Y2 s3.heap:=st3.keepV a2 noW;have st3':Step W' Y s Y2 s3:=st2.trans (st3.weaken λb hb=>.inl hb);have stF:Step W Y s Y2 s3:=st3'.drop (B:=W) λb hb=>hb.imp id λq=>by rw[hDD];exact q
   exact hRR D C s3 Y2 acc mC hDfr (zwq hDD) (zBj hDD hCD) (zAg hCD) hD2 F2.out.1 hmC (zN ys n hDo3 (rys.mono kv3) hacc2) a3 stF hf
  | some x=>
   have hlt:i<xs.length:=(fW.mp hx).1;have hd:xs.drop i=x::xs.drop (i+1):=by rw[fAI hlt,(fW.mp hx).2]
   rw[hd] at hf;refine zb hf λl3 hb3 hf=>?_;refine IT.item i x Y2 s2 _ _ _ (λv s3 hr=>hr) hx a2 hI2 hSt2 hW2 λv s3 rv a3 st3 hSt3=>?_;have F3:=F2.stepB a2 st3 dis noW;have hDo3:s3.heap.get? D=some (zS ys n):=st3.keep _ _ hDo hD2 disD (zcx _ _);have rys3:=rys.mono (st3.keepV a2 noW);refine ht C d A l2 l3 Y2 s3 x v _ _ L hdd a3 F3 rv hb3 λs4 F4 a4 st4=>?_;have noC:NoStay (λb=>b=C) s3.heap:=λb o hb e=>F3.noStay b o (.inl hb) e;have hDo4:s4.heap.get? D=some (zS ys n):=st4.keep _ _ hDo3 hD2 (by show ¬D=C;exact zww hCD) (zcx _ _);have rys4:=rys3.mono (st4.keepV a3 noC);have hSt4:St (i+1) Y2 s4.heap:=IT.stable _ _ _ _ _ hSt3 (st4.keepV a3 noC) λb o hb e=>st4.keep b o e (hW2 b hb).1 (λq=>dis b (.inl q) hb) (ndW hSt3 hb e);refine zi8 (hc C) L a4 F4 hf λok s5 hpx=>?_;refine zh hpx λY5 a5 st5 q5=>?_;have hD5:Y5 D=none:=st5.gone hDo4 hD2;have F5:=F4.step a4 st5;have hDo5:s5.heap.get? D=some (zS ys n):=st5.keep _ _ hDo4 hD2 id (zcx _ _);have rys5:=rys4.mono (st5.keepV0 a4);have out5:∀b,W b->Y5 b=none/\X.h₀.get? b=none:=λb hb=>⟨by refine zb (IT.there _ _ _ b hSt4 hb) λo ho _=>?_;exact st5.gone ho (hW2 b hb).1,(hW2 b hb).2⟩
   have hSt5:St (i+1) Y5 s5.heap:=IT.stable _ _ _ _ _ hSt4 (st5.keepV0 a4) λb o hb e=>st5.keep b o e (hW2 b hb).1 id (ndW hSt4 hb e);have stA5:Step W' Y s Y5 s5:=st2.trans ((st3.weaken λb hb=>.inl hb).trans ((st4.weaken λb hb=>.inr (leA (by have hb:@Eq Nat b C:=hb;exact zBH hCD (by assumption)))).trans (st5.weaken λb hb=>hb.elim)));have hC5:C<s5.heap.objs.size:=pI hC2 (fE st3.size (fE st4.size st5.size));cases ok with
   | false=>
    simp only[gK,if_false];exact j6 (xs.length+1-(i+1)) (zrR hlt) (i+1) l3 Y5 acc ys n rfl hlt a5 F5 stA5 q5.1 hSt5 out5 hD5 hDo5 rys5 hacc2 hC5 q5.2
   | true=>
    simp only[if_true];refine Ha (hm C d A l3 Y5 s5 _ _ L a5 F5 q5) (λy s6 hpx=>?_) λ_ _ x=>noX x;refine zea hpx λav Y6 r6 a6 st6 hI6 hsz6 hf6=>?_;have hD6:Y6 D=none:=st6.gone hDo5 hD5;have F6:=F5.step a5 st6;have hDo6:s6.heap.get? D=some (zS ys n):=st6.keep _ _ hDo5 hD5 id (zcx _ _);have rys6:=rys5.mono (st6.keepV0 a5);have hSt6:St (i+1) Y6 s6.heap:=IT.stable _ _ _ _ _ hSt5 (st6.keepV0 a5) λb o hb e=>st6.keep b o e (out5 b hb).1 id (ndW hSt5 hb e);have out6:∀b,W b->Y6 b=none/\X.h₀.get? b=none:=λb hb=>⟨by refine zb (IT.there _ _ _ b hSt5 hb) λo ho _=>?_;exact st6.gone ho (out5 b hb).1,(hW2 b hb).2⟩
    refine wpAny_list_append_plain (items:=ys.toArray) ⟨n,hDo6⟩ (λh7 ⟨n7,hl7⟩ hs7=>?_) (by
     have:=rys6.length;rw[Hc];simp;exact zAc hsz6 this)
    have kv7:KeepV Y6 s6.heap Y6 h7:=.mk' λb o e stb=>by
     have hb:b≠D:=by rintro rfl;rw[hDo6] at e;obtain rfl:=Hy e;exact zbk _ _ stb
     exact(hs7.2 b hb).trans e
    have a7:At X Y6 { s6 with heap:=h7 }:=a6.aside (t:=s6.toks) (h':=h7) hD6 (hh₀ D (fN _)) (λo e=>by rw[hDo6] at e;obtain rfl:=Hy e;exact zbk _ _) (λq=>absurd q hDfr) hs7;have st7:Step (λb=>b=D) Y6 s6 Y6 { s6 with heap:=h7 }:=Step.aside (t:=s6.toks) (h':=h7) rfl hs7;have noD:NoStay (λb=>b=D) s6.heap:=λb o hb e=>by subst hb;rw[hDo6] at e;obtain rfl:=Hy e;exact zbk _ _
    have F7:=F6.stepB a6 st7 (λb hb q=>hDF (q▸hb)) noD;refine j6 (xs.length+1-(i+1)) (zrR hlt) (i+1) l3 Y6 (acc++[av]) (ys++[y]) n7 rfl hlt a7 F7 (stA5.trans ((st6.weaken λb hb=>hb.elim).trans (st7.weaken λb hb=>.inr (leA (by have hb:@Eq Nat b D:=hb;exact ztR (by assumption)))))) hI6 (IT.stable _ _ _ _ _ hSt6 kv7 λb o hb e=>(hs7.2 b λq=>disD (q▸hb)).trans e) out6 hD6 ?_ ((rys6.mono kv7).append (.cons (r6.mono kv7) .nil)) (by rw[fF];exact hsz6) ?_ hf6
    .have:(ys.toArray.push y)=(ys++[y]).toArray:=by simp
     rw[this] at hl7;exact hl7
    .show C<h7.objs.size;rw[hs7.1];exact pI hC5 st6.size
 show Hk X.M A (.compStart (.ListComp elt [⟨target,iter,ifs,0⟩] scope pos) 0 it (.ref D) (compEnvC scope (clo env.cells scope.names []) C env)) (RR (.ref D) C) s1;exact codeAny_compStart_list loop (IT.self 0 Y s1 _ _ hSt1 loop)
end
theorem RepVs.mem{Y:AHeap}{h:Heap}{xs:List AV}{vs:List Value}(r:RepVs Y h xs vs):∀v∈vs,∃x∈xs,RepV Y h x v:=by
 induction xs generalizing vs with
 | nil=>obtain rfl:=RepVs.wG r;intro v hv;cases hv
 | cons y xs ih=>
  obtain⟨_,_,rfl,a,r⟩:=RepVs.wF r;intro v hv
  rcases fJ.mp hv with e|hv
  .subst e;exact zc _ fA a
  .obtain⟨x,hx,q⟩:=ih r v hv;exact zc x (fB _ hx) q
section
variable{prog:Hj}{w:World}
def zdW(prog:Hj)(w:World)(h:Heap)(n:Nat)(v:Value)(x:Int)(dr:Nat):Prop:=
 ∀(A:Around) (E:Value->Shared->Prop) (s:Shared) (Q:Int->Shared->Prop),s.heap=h->A.units+n<cLine->Q x { s with toks:=s.toks+dr }->wpAny (model prog w) A (pyHash v) Q E s
inductive HashAll(prog:Hj)(w:World)(h:Heap)(n:Nat):List Value->List Int->Nat->Prop
 | nil:HashAll prog w h n [] [] 0
 | cons {v x dr vs xs drs}:zdW prog w h n v x dr->HashAll prog w h n vs xs drs->HashAll prog w h n (v::vs) (x::xs) (dr+drs)
theorem zjM{h:Heap}{n:Nat}(x:Str)(t:Tok):zdW prog w h n (.str x t) (hashStr w x) 1:=λA E s Q _ _ hq=>wpAny_pyHash_str hq
theorem zjL{h:Heap}{n:Nat}(x:Int)(t:Tok):zdW prog w h n (.int x t) (hashInt x) 1:=λA E s Q _ _ hq=>wpAny_pyHash_int hq
theorem zcn{h:Heap}{n:Nat}{a:Addr}{vs:List Value}{xs:List Int}{dr:Nat}(ht:IsTup h a vs.toArray)(hi:HashAll prog w h n vs xs dr):zdW prog w h (n+10) (.ref a) (reduceHash (Builtin.Tuple.tupleHashOf xs)) (dr+1):=λA E s Q hs hu hq=>by
 subst hs;refine jM ht λo ho hc m hd=>?_;have hT:s.TypeIs (.ref a) "tuple":=(zc o ho hc)
 first|unfold pyHashByItsType|skip
 first|refine G8 (wpAny_cRoomFor_or (.inr (zAT hu)) ?_)|skip
 refine G8 (wpAny_specialOf hT F.slot_tuple_hash.lookup ?_);rw[if_neg (by rw[beq_builtin_none];exact pU)];refine G8 (wpAny_specialOf hT F.slot_tuple_hash.lookup ?_);refine G8 (wpAny_callSpecialIfBoundUnlessNone?_slot hT F.slot_tuple_hash (Hf F.slot_tuple_hash hT F.entry_tuple_hash ?_ (F.args_tuple_hash_1 _)));show wpAny _ _ (Builtin.Tuple.tupleItemsOf (.ref a) >>= _) _ _ s;refine G8 (wpAny_tupleItemsOf ho hd ?_);refine G8 ?_;rw[<-fBU];refine He _
  (λrest (b:Array Int) s'=>∃(left:List Int) (d1 d2:Nat),xs=b.toList++left/\HashAll prog w s.heap n rest left d2/\dr=d1+d2/\s'={ s with toks:=s.toks+d1 })
  _ ?_ ?_ _ _ (jV xs 0 dr rfl hi (by simp) rfl)
 .intro v rest b s' hR1;refine zbq hR1 λleft d1 d2 hx hl hdr e2_6=>?_;subst e2_6;cases hl with
  | @cons _ x0 e1 _ xs' e2 h1 hl'=>
   refine G8 (h1 _ _ _ _ rfl ?_ ?_)
   .have:∀B:Around,B.units<=A.units+9->B.units+n<cLine:=λB hB=>by exact zCl hu hB
    exact this _ (by show A.units+_<=A.units+9;exact zzi)
   first
    | exact G9 (jV xs' (d1+e1) e2 (by simp[hx]) hl' (zCy hdr) (by simp[fAP]))
    | exact G8 (G9 (G9 ⟨xs',d1+e1,e2,by simp[hx],hl',by lia,by simp[fAP]⟩))
 .intro b s' hR2;refine zbq hR2 λleft d1 d2 hx hl hdr e3_6=>?_;subst e3_6;cases hl;rw[gT] at hx;subst hdr;show wpAny _ _ (retInt (Builtin.Tuple.tupleHashOf b.toList)) _ _ _;rw[<-hx];refine wpAny_ret_mkInt ?_;show wpAny _ _ (if (decide (-(2:Int) ^ 63<=Builtin.Tuple.tupleHashOf xs)&&decide (Builtin.Tuple.tupleHashOf xs<2 ^ 63))=true then _ else _) Q E _;unfold reduceHash at hq
  by_cases hr:(decide (-(2:Int) ^ 63<=Builtin.Tuple.tupleHashOf xs)&&decide (Builtin.Tuple.tupleHashOf xs<2 ^ 63))=true
  .rw[if_pos hr];rw[if_pos hr] at hq;exact G9 (by simpa [fAP] using hq)
  .rw[if_neg hr];rw[if_neg hr] at hq;exact G8 (Hd (G9 (by simpa [fAP] using hq)))
end
section
variable{prog:Hj}{w:World}
def zb5(prog:Hj)(w:World)(h:Heap)(k:Nat)(v:Value):Prop:=
 ∀(A:Around) (E:Value->Shared->Prop) (s:Shared) (Q:Bool->Shared->Prop),s.heap=h->Q true s->wpAny (model prog w) A (eqIsQuiet k v) Q E s
theorem ziM{h:Heap}{k:Nat}{v:Value}(hv:carriedByValue v=true):zb5 prog w h k v:=λA E s Q _ hq=>by
 rw[eqIsQuiet_byValue _ hv];exact G9 hq
theorem zbI{h:Heap}{k:Nat}{a:Addr}{vs:List Value}(ht:IsTup h a vs.toArray)(hi:∀v∈vs,zb5 prog w h k v):zb5 prog w h (k+1) (.ref a):=λA E s Q hs hq=>by
 subst hs;refine jM ht λo ho hc m hd=>?_;have hT:s.TypeIs (.ref a) "tuple":=(zc o ho hc)
 unfold eqIsQuiet;refine G8 (wpAny_specialOf hT F.slot_tuple_eq.lookup ?_);refine G8 (wpAny_isInstance hT isSubtype_tuple_tuple ?_);simp only[fC0,gK,if_false];refine G8 (wpAny_seqItems ho hd ?_);refine G8 ?_;rw[<-fBU];refine He _ (λrest r s'=>r.1=none/\s'=s/\∀v∈rest,zb5 prog w s.heap k v) _ ?_ ?_ _ _ (zo rfl rfl hi)
 .intro v rest r s' hR3;refine zZ hR3 λhr e4_1 hall=>?_;subst e4_1;refine G8 (hall v fA _ _ _ _ rfl ?_);simp only[fC0,gK,if_false];exact G9 (zo rfl rfl (λu hu'=>hall u (fB _ hu')))
 .intro hR4;obtain⟨r1,r2⟩:=hR4;intro s' hR5;refine zZ hR5 λhr e6_1 _=>?_;subst e6_1;simp only at hr;subst hr;exact G9 hq
end
noncomputable def mkD(m:zd):PyData:=.tuple [.str (zy m.1.toNat),.int m.2]
section
variable{prog:Hj}{w:World}{Y:AHeap}{h:Heap}
theorem ziw{m:zd}{v:Value}(r:RepV Y h (zI m) v):∃a t u,v = .ref a/\IsTup h a [Value.str (zy m.1.toNat) t,.int m.2 u].toArray/\(zI m=zI m/\2<=1000000/\m.1.toNat<zao):=by
 refine zj (RepV.wH r) λa vs z1 hl ht rs=>?_;refine zm (RepVs.wF rs) λv1 us z2 r1 rs=>?_;refine zm (RepVs.wF rs) λv2 us2 z3 r2 rs=>?_;refine zb (RepV.wI r1) λt z4 hn=>?_;refine z8 (RepV.wD r2) λu z5=>?_;have z6:=RepVs.wG rs;subst z6 z5 z4 z3 z2;exact⟨a,t,u,z1,ht,rfl,hl,hn⟩
theorem kD{m:zd}{v:Value}(r:RepV Y h (zI m) v):∃a t u,v = .ref a/\IsTup h a [Value.str (zy m.1.toNat) t,.int m.2 u].toArray:=
 jt (ziw r) λa t u z ht _=>qW a t u z ht
theorem zmW{m:zd}{v:Value}(r:RepV Y h (zI m) v):zdW prog w h 10 v (mkH w m) 3:=by
 refine jh (kD r) λa t u e5_3 ht=>?_;subst e5_3;exact zcn (n:=0) ht (.cons (zjM _ _) (.cons (zjL _ _) .nil))
theorem zj7{m:zd}{v:Value}(r:RepV Y h (zI m) v):zb5 prog w h 7 v:=by
 refine jh (kD r) λa t u e6_3 ht=>?_;subst e6_3;refine zbI ht λv hv=>ziM ?_;simp at hv
 rcases hv with rfl|rfl<;>rfl
theorem zkv{ms:List zd}{vs:List Value}(r:RepVs Y h (ms.map zI) vs):HashAll prog w h 10 vs (ms.map (mkH w)) (3*ms.length):=by
 induction ms generalizing vs with
 | nil=>obtain rfl:=RepVs.wG r;exact .nil
 | cons m ms ih=>
  refine zm (RepVs.wF r) λ_ _ z1 r0 rs=>?_;subst z1
  .have:=HashAll.cons (zmW (prog:=prog) (w:=w) r0) (ih rs);have e:3*(m::ms).length=3+3*ms.length:=by simp;exact zze
   rw[e];exact this
theorem zfL{a:Addr}{vs us:List Value}(h1:IsTup h a vs.toArray)(h2:IsTup h a us.toArray):vs=us:=by
 refine jM h1 λo ho hc n hd=>?_;refine jM h2 λo' ho' hc' n' hd'=>?_;rw[ho] at ho';obtain rfl:=Hy ho';rw[hd] at hd';injection hd' with e;simpa using e
theorem zpa{Y':AHeap}{m:zd}{v:Value}(r:RepV Y h (zI m) v):RepV Y' h (zI m) v:=by
 refine jt (ziw r) λa t u z ht q=>?_;subst z;exact .tup q.2.1 ht (.cons (.str q.2.2 t) (.cons (.int _ u) .nil))
theorem zmX{Y':AHeap}{ms:List zd}{vs:List Value}(r:RepVs Y h (ms.map zI) vs):RepVs Y' h (ms.map zI) vs:=by
 induction ms generalizing vs with
 | nil=>obtain rfl:=RepVs.wG r;exact .nil
 | cons m ms ih=>refine zm (RepVs.wF r) λ_ _ z1 r0 rs=>?_;subst z1;exact .cons (zpa r0) (ih rs)
theorem zcG{Y':AHeap}{ms:List zd}{v:Value}(r:RepV Y h (zC ms) v):RepV Y' h (zC ms) v:=by
 refine zj (RepV.wH r) λ_ _ e10_2 hl ht rs=>?_;subst e10_2;exact .tup hl ht (zmX rs)
theorem zpb{m m':zd}{v:Value}(r:RepV Y h (zI m) v)(r':RepV Y h (zI m') v):m=m':=by
 refine jh (kD r) λa t u e11_3 ht=>?_;subst e11_3;refine jh (kD r') λa' t' u' e ht'=>?_;cases e;have:=zfL ht ht';simp at this;exact Prod.ext (side_inj.mp this.1.1) this.2.1
theorem zpE{xs ys:List zd}{vs:List Value}(r:RepVs Y h (xs.map zI) vs)(r':RepVs Y h (ys.map zI) vs):xs=ys:=by
 induction xs generalizing ys vs with
 | nil=>obtain rfl:=RepVs.wG r;cases ys with
  | nil=>rfl
  | cons _ _=>exact zm (RepVs.wF r') λ_ _ z _ _=>nomatch z
 | cons x xs ih=>
  refine zm (RepVs.wF r) λ_ _ z1 r0 rs=>?_;subst z1
  .cases ys with
   | nil=>exact nomatch RepVs.wG r'
   | cons y ys=>refine zm (RepVs.wF r') λ_ _ z1 r' rs'=>?_;obtain⟨rfl,rfl⟩:=List.cons.inj z1;rw[zpb r0 r',ih rs rs']
theorem jH{ms:List zd}{v:Value}(r:RepV Y h (zC ms) v):∃a vs,v = .ref a/\IsTup h a vs.toArray/\RepVs Y h (ms.map zI) vs:=by
 refine zj (RepV.wH r) λa vs e13_2 hl ht rs=>?_;subst e13_2;exact zN a vs rfl ht rs
theorem zj8{m:zd}{v:Value}(r:RepV Y h (zI m) v):Reads h v (mkD m) []:=by
 refine zhT (kD r) λa t u e14_3 o ho hc n hd=>?_;subst e14_3;exact .tuple ho hc hd (.cons (.str _ _) (.cons (.int _ _) .nil))
theorem zix{ms:List zd}{vs:List Value}(r:RepVs Y h (ms.map zI) vs):ReadsAll h vs (ms.map mkD) []:=by
 induction ms generalizing vs with
 | nil=>obtain rfl:=RepVs.wG r;exact .nil
 | cons m ms ih=>refine zm (RepVs.wF r) λ_ _ z1 r0 rs=>?_;subst z1;exact ReadsAll.cons (as:=[]) (bs:=[]) (zj8 r0) (ih rs)
theorem zf1{ms:List zd}{v:Value}(r:RepV Y h (zC ms) v):Reads h v (.tuple (ms.map mkD)) []:=by
 refine zm (jH r) λa vs e15_2 h15_3 rs=>?_;subst e15_2;refine jM h15_3 λo ho hc n hd=>?_;exact .tuple ho hc hd (zix rs)
theorem zre(m m':zd):PyData.eqv (mkD m) (mkD m')=decide (m=m'):=by
 obtain⟨a,b⟩:=m;obtain⟨c,d⟩:=m';simp[mkD,PyData.eqv,PyData.eqvAll,Prod.ext_iff]
 by_cases h1:a=c<;>by_cases h2:b=d<;>simp[h1,h2,side_inj]
theorem zrn(xs ys:List zd):PyData.eqvAll (xs.map mkD) (ys.map mkD)=decide (xs=ys):=by
 induction xs generalizing ys with
 | nil=>cases ys with
  | nil=>rfl
  | cons y ys=>simp[PyData.eqvAll]
 | cons x xs ih=>cases ys with
  | nil=>simp[PyData.eqvAll]
  | cons y ys=>
   simp only[gJ,PyData.eqvAll,zre,ih,List.cons.injEq]
   by_cases h1:x=y<;>by_cases h2:xs=ys<;>simp[h1,h2]
theorem zlM(ms:List zd):PyData.canLayAll0 (ms.map mkD)=true/\PyData.depthAll (ms.map mkD)<=5:=by
 induction ms with
 | nil=>exact⟨rfl,by simp[PyData.depthAll]⟩
 | cons m ms ih=>
  have h1:PyData.strOk (zy m.1.toNat)=true:=zi3 (zhi _);refine⟨by simp[PyData.canLayAll0,mkD,PyData.canLay0,h1,ih.1],?_⟩;have:=ih.2;simp[PyData.depthAll,mkD,PyData.depth];lia
end
noncomputable def ztg:AHeap:=λ_=>none
noncomputable def kM(prog:Hj)(w:World):HeapKind prog w (List zd) where
 is:=λh ms a=>RepV ztg h (zC ms) (.ref a)
 hash:=zuR w
 draws:=λms=>3*ms.length+1
 room:=λA=>A.units+100<cLine
 inj:=λhx hy=>by
  refine zm (jH hx) λa vs e ht rs=>?_;refine zm (jH hy) λa' vs' e' ht' rs'=>?_;cases e;cases e';have:=zfL ht ht';subst this;exact zpE rs rs'
 keeps:=λx ho hd hs=>x.mono (.mk' λb o e st=>by
  refine(hs.2 b ?_).trans e;rintro rfl;rw[ho] at e;obtain rfl:=Hy e;exact zbj hd st)
 pyHash:=λhu hk hq=>by
  refine zm (jH hk) λa vs e ht rs=>?_;cases e;exact zcn (n:=10) ht (zkv rs) _ _ _ _ rfl (zzH hu) hq
 eqBool:=λhu hx hy hq=>by
  rename_i k1 k2 _ _ _
  have l1:=zlM k1;have l2:=zlM k2;refine eqAt_reads _ _ _ _ _ _ _ _ (zf1 hx) (zf1 hy) (by simpa [PyData.canLay0] using l1.1) (by simpa [PyData.canLay0] using l2.1) ?_ _ _ _ _ ?_
  .simp only[PyData.depth];have:=l1.2;have:=l2.2
   lia
  .simp only[PyData.eqv,zrn];exact hq
 quiet:=λhk hq=>by
  refine zm (jH hk) λa vs e ht rs=>?_;cases e;refine zbI (k:=7) ht (λv hv=>?_) _ _ _ _ rfl hq;refine zb (rs.mem v hv) λx hx rx=>?_;refine zb (fO.mp hx) λm _ e23_2=>?_;subst e23_2;exact zj7 rx
abbrev Tab:=List (List zd×AV)
noncomputable def Tab.at(kvs:Tab)(k:List zd):Option AV:=(kvs.find? λx=>decide (x.1=k)).map (·.2)
noncomputable def Tab.put(kvs:Tab)(k:List zd)(v:AV):Tab:=if (kvs.at k).isSome then kvs.map (λx=>if x.1=k then (x.1,v) else x) else kvs++[(k,v)]
inductive TX(Y:AHeap)(h:Heap):List (List zd×Addr×Value)->Tab->Prop
 | nil:TX Y h [] []
 | cons {k:List zd} {a:Addr} {v:Value} {x:AV} {xs kvs}:RepV Y h (zC k) (.ref a)->RepV Y h x v->TX Y h xs kvs->TX Y h ((k,a,v)::xs) ((k,x)::kvs)
section
variable{prog:Hj}{w:World}{Y Y':AHeap}{h h':Heap}
theorem TX.keys{xs:List (List zd×Addr×Value)}{kvs:Tab}(t:TX Y h xs kvs):xs.map (·.1)=kvs.map (·.1):=by
 induction t with
 | nil=>rfl
 | cons _ _ _ ih=>rw[gJ,gJ,ih]
theorem TX.length{xs:List (List zd×Addr×Value)}{kvs:Tab}(t:TX Y h xs kvs):xs.length=kvs.length:=by
 have:=congrArg List.length t.keys;rwa [fC,fC] at this
theorem TX.mono(k:KeepV Y h Y' h'){xs:List (List zd×Addr×Value)}{kvs:Tab}(t:TX Y h xs kvs):TX Y' h' xs kvs:=by
 induction t with
 | nil=>exact .nil
 | cons a b _ ih=>exact .cons (a.mono k) (b.mono k) ih
theorem TX.of{kvs:Tab}{es:List DictEntry}(t:RepT w Y h kvs es):∃xs,TX Y h xs kvs/\es=xs.map (entryOfKey (kM prog w)):=by
 induction t with
 | nil=>exact⟨[],.nil,rfl⟩
 | @cons k x r e es a b c _ ih=>
  refine zb ih λxs h1 h2=>?_;refine zm (jH a) λad vs ea _ _=>?_;obtain⟨eh,ek,ev⟩:=e;simp only at ea a b c;subst ea;exact zc ((k,ad,ev)::xs) (.cons a b h1) (by rw[h2,gJ];congr 1;simp only[entryOfKey];rw[c];rfl)
theorem TX.to{xs:List (List zd×Addr×Value)}{kvs:Tab}(t:TX Y h xs kvs):RepT w Y h kvs (xs.map (entryOfKey (kM prog w))):=by
 induction t with
 | nil=>exact .nil
 | cons a b _ ih=>exact .cons a b rfl ih
theorem TX.at_{k:List zd}{xs:List (List zd×Addr×Value)}{kvs:Tab}(t:TX Y h xs kvs):(atKey xs k=none/\Tab.at kvs k=none)\/∃p x,atKey xs k=some p/\Tab.at kvs k=some x/\RepV Y h x p.2:=by
 induction t with
 | nil=>exact .inl ⟨rfl,rfl⟩
 | @cons k' a v x xs kvs ra rb r ih=>
  unfold atKey Tab.at at ih ⊢
  by_cases hk:k'=k
  .refine .inr (zN (a,v) x ?_ ?_ rb)<;>rw[pX,H0 hk]<;>rfl
  .rw[pX,pX,Hz hk];exact ih
theorem TX.snoc{k:List zd}{a:Addr}{v:Value}{x:AV}(ra:RepV Y h (zC k) (.ref a))(rb:RepV Y h x v){xs:List (List zd×Addr×Value)}{kvs:Tab}(t:TX Y h xs kvs):TX Y h (xs++[(k,a,v)]) (kvs++[(k,x)]):=by
 induction t with
 | nil=>exact .cons ra rb .nil
 | cons p q _ ih=>exact .cons p q ih
theorem TX.over{k:List zd}{v:Value}{x:AV}(rb:RepV Y h x v){xs:List (List zd×Addr×Value)}{kvs:Tab}(t:TX Y h xs kvs):TX Y h (xs.map (putAt k v)) (kvs.map λy=>if y.1=k then (y.1,x) else y):=by
 induction t with
 | nil=>exact .nil
 | @cons k' a' v' _ xs kvs p q r ih=>
  rw[gJ,gJ];unfold putAt at ih ⊢
  by_cases hk:k'=k
  .rw[if_pos hk,if_pos hk];exact .cons p rb ih
  .rw[if_neg hk,if_neg hk];exact .cons p q ih
theorem TX.put{k:List zd}{a:Addr}{v:Value}{x:AV}(ra:RepV Y h (zC k) (.ref a))(rb:RepV Y h x v){xs kvs}(t:TX Y h xs kvs):TX Y h (storedH xs k a v) (Tab.put kvs k x):=by
 unfold Tab.put
 rcases t.at_ (k:=k) with⟨h1,h2⟩|⟨p,y,h1,h2,_⟩
 .rw[storedH_new h1,h2];exact t.snoc ra rb
 .rw[storedH_old h1,h2];exact t.over rb
end
section
variable{X:Cx}{Y:AHeap}{s:Shared}{d:Addr}{kvs:Tab}
theorem At.tab(a:At X Y s)(e:Y d=some (.tdict kvs)):∃xs,s.heap.DictOfH (kM X.prog X.w) d xs/\TX Y s.heap xs kvs:=by
 refine zv (a.rep _ _ e) λes n ho rt nd hl _=>?_;refine zb (TX.of (prog:=X.prog) rt) λxs h1 h2=>?_;refine zc xs (zbd _ es n ho (zo rfl rfl rfl) rfl h2 (λx hx=>?_) (by rw[h1.keys];exact nd)) h1;clear nd hl ho e;clear h2 rt
 induction h1 with
 | nil=>cases hx
 | cons ra rb r ih=>
  rcases fJ.mp hx with rfl|hx
  .exact zcG ra
  .exact ih hx
theorem At.tabNe(a:At X Y s)(e:Y d=some (.tdict kvs)):(d==sysModules)=false:=by
 refine zv (a.rep _ _ e) λes n ho rt nd hl h=>?_;exact h
theorem Tab.w1(kvs:Tab)(k:List zd)(v:AV):(kvs.put k v).length<=kvs.length+1:=by
 unfold Tab.put;split<;>simp
theorem zi6{h':Heap}{xs:List (List zd×Addr×Value)}{k:List zd}{ad:Addr}{x:AV}{v:Value}(a:At X Y s)(e:Y d=some (.tdict kvs))(tx:TX Y s.heap xs kvs)(rk:RepV Y s.heap (zC k) (.ref ad))(rv:RepV Y s.heap x v)(hl:kvs.length<1000000){Y':AHeap}(kv:KeepV Y s.heap Y' h')
  (hD':h'.DictOfH (kM X.prog X.w) d (storedH xs k ad v)):RepA X Y' h' d (.tdict (kvs.put k x)):=by
 refine ji hD' λo es ep ho h8_4 hd he hi hn=>?_;obtain⟨hc1,hc2,hc3⟩:=h8_4;have tx':=(tx.mono kv).put (rk.mono kv) (rv.mono kv);refine jw es ep ?_ ?_ ?_ ?_ (a.tabNe e)
 .rw[ho];obtain⟨c,di,da,sl⟩:=o;simp only at hc1 hc2 hc3 hd;subst hc1;subst hc2;subst hc3;subst hd;rfl
 .rw[he];exact tx'.to
 .rw[<-tx'.keys];exact hn
 .have:=Tab.w1 kvs k x;lia
theorem zpW{xs:List (List zd×Addr×Value)}{kvs:Tab}(tx:TX Y s.heap xs kvs)(k:List zd):(atKey xs k).isSome=(kvs.at k).isSome:=by
 rcases tx.at_ (k:=k) with⟨h1,h2⟩|⟨p,y,h1,h2,_⟩<;>rw[h1,h2]<;>rfl
variable{A:Around}{E:Value->Shared->Prop}{dp:Dp}{Q:zl}{k:List zd}{u:Value}
theorem zrx{v:Value}{x:AV}{R:Unit->Shared->Prop}(L:Live X dp A)(a:At X Y s)(e:Y d=some (.tdict kvs))(rk:RepV Y s.heap (zC k) u)(rv:RepV Y s.heap x v)(hl:kvs.length<1000000)
  (q:∀s',At X (Y.set d (.tdict (kvs.put k x))) s'->Step E0 Y s (Y.set d (.tdict (kvs.put k x))) s'->R () s'):wpAny X.M A (setItem (.ref d) u v) R E s:=by
 refine zm (jH rk) λad vs e10_2 _ _=>?_;subst e10_2;refine zb (a.tab e) λxs hD tx=>?_;have room:=L.room;refine wpAny_setItem_heap (knd:=kM X.prog X.w) (by show A.units+1+100<cLine;exact ztI room) (zcG rk) hD (λh' hD' hs=>?_) (by rw[tx.length,Hc];exact zvQ hl);refine q _ (a.store (t:=_) (ao:=.tdict (kvs.put k x)) e rfl hs λkv=>?_) (Step.store (t:=_) e rfl hs);exact zi6 a e tx rk rv hl kv hD'
theorem zrw{v:Value}{x:AV}{R:Unit->Shared->Prop}(L:Live X dp A)(a:At X Y s)(e:Y d=some (.tdict kvs))(rk:RepV Y s.heap (zC k) u)(rv:RepV Y s.heap x v)(hl:kvs.length<1000000)
  (q:∀s',At X (Y.set d (.tdict (kvs.put k x))) s'->Step E0 Y s (Y.set d (.tdict (kvs.put k x))) s'->R () s'):wpAny X.M A (dictSet d u v) R E s:=by
 refine zm (jH rk) λad vs e12_2 _ _=>?_;subst e12_2;refine zb (a.tab e) λxs hD tx=>?_;have room:=L.room;refine wpAny_dictSet_heap (knd:=kM X.prog X.w) (by show A.units+100<cLine;exact zzJ room) (zcG rk) hD (λh' hD' hs=>?_) (by rw[tx.length,Hc];exact zvQ hl);refine q _ (a.store (t:=_) (ao:=.tdict (kvs.put k x)) e rfl hs λkv=>?_) (Step.store (t:=_) e rfl hs);exact zi6 a e tx rk rv hl kv hD'
theorem ztw(L:Live X dp A)(a:At X Y s)(e:Y d=some (.tdict kvs))(rk:RepV Y s.heap (zC k) u)(q:Q (.bool (kvs.at k).isSome) (vis Y)):wpAny X.M A (compareOp .In u (.ref d)) (liftQ X Y s Q) E s:=by
 refine zm (jH rk) λad vs e14_2 _ _=>?_;subst e14_2;refine zb (a.tab e) λxs hD tx=>?_;have room:=L.room;refine wpAny_in_heap (knd:=kM X.prog X.w) (by show A.units+1+100<cLine;exact ztI room) (zcG rk) (a.tabNe e) hD ?_;rw[zpW tx];exact kU a (.bool _) q
theorem zrv{x:AV}(L:Live X dp A)(a:At X Y s)(e:Y d=some (.tdict kvs))(rk:RepV Y s.heap (zC k) u)(hx:kvs.at k=some x)(q:Q x (vis Y)):wpAny X.M A (getItem (.ref d) u) (liftQ X Y s Q) E s:=by
 refine zm (jH rk) λad vs e16_2 _ _=>?_;subst e16_2;refine zb (a.tab e) λxs hD tx=>?_;have room:=L.room
 rcases tx.at_ (k:=k) with⟨_,h2⟩|⟨p,y,h1,h2,r⟩
 .rw[hx] at h2;exact absurd h2 (fP _)
 .rw[hx] at h2;obtain rfl:=Hy h2;exact wpAny_getItem_heap (knd:=kM X.prog X.w) (by show A.units+1+100<cLine;exact ztI room) (zcG rk) hD h1 (kU a r q)
end
noncomputable def kO(fs:List (Nat×AV))(k:Nat):Option AV:=match fs with
 | []=>none
 | p::r=>bif Nat.beq p.1 k then some p.2 else kO r k
noncomputable def jx(fs:List (Nat×AV))(k:Nat)(v:AV):List (Nat×AV):=match fs with
 | []=>[(k,v)]
 | p::r=>bif Nat.beq p.1 k then (k,v)::r else p::jx r k v
theorem ztd{a b:Nat}:Nat.beq a b=decide (a=b):=by
 cases h:Nat.beq a b with
 | true=>exact(H0 (Nat.eq_of_beq_eq_true h)).symm
 | false=>exact(Hz (Nat.ne_of_beq_eq_false h)).symm
theorem zdf(fs:List (Nat×AV))(k:Nat)(v:AV):(jx fs k v).length<=fs.length+1:=by
 induction fs with
 | nil=>exact fN _
 | cons p r ih=>
  unfold jx;cases Nat.beq p.1 k with
  | true=>exact fBJ _
  | false=>exact gW ih
section
variable{X:Cx}{Y:AHeap}{s:Shared}{h:Heap}{d:Addr}{fs:List (Nat×AV)}{kvs:List (Str×Value)}
theorem SX.get(t:SX Y h kvs fs){k:Nat}(hk:k<zao):(valueAt kvs (zy k)=none/\kO fs k=none)\/∃v x,valueAt kvs (zy k)=some v/\kO fs k=some x/\RepV Y h x v:=by
 induction t with
 | nil=>exact .inl ⟨rfl,rfl⟩
 | @cons k' x v kvs fs hk' r t ih=>
  unfold valueAt at ih ⊢;rw[pX,show kO ((k',x)::fs) k=(bif Nat.beq k' k then some x else kO fs k) from rfl,ztd]
  by_cases e:k'=k
  .subst e;rw[H0 rfl,H0 rfl];exact .inr (zN v x rfl rfl r)
  .have e':¬zy k'=zy k:=λq=>e (ki hk' hk q);rw[Hz e',Hz e];exact ih
theorem SX.keys(t:SX Y h kvs fs):kvs.map (·.1)=fs.map λf=>zy f.1:=by
 induction t with
 | nil=>rfl
 | cons _ _ _ ih=>rw[gJ,gJ,ih]
theorem SX.length(t:SX Y h kvs fs):kvs.length=fs.length:=by
 have:=congrArg List.length t.keys;rwa [fC,fC] at this
theorem zqp{k:Str}:kvs.any (λkv=>decide (kv.1=k))=decide (k∈kvs.map (·.1)):=by
 rw[Bool.eq_iff_iff,List.any_eq_true,decide_eq_true_eq,fO];exact⟨λ⟨p,h1,h2⟩=>(zc p h1 (H1 h2)),λ⟨p,h1,h2⟩=>(zc p h1 (H0 h2))⟩
theorem SX.put(t:SX Y h kvs fs)(nd:(kvs.map (·.1)).Nodup){k:Nat}{x:AV}{v:Value}(hk:k<zao)(r:RepV Y h x v):SX Y h (stored kvs (zy k) v) (jx fs k x):=by
 have go:∀{kvs:List (Str×Value)} {fs:List (Nat×AV)},SX Y h kvs fs->(kvs.map (·.1)).Nodup->(zy k∈kvs.map (·.1)->SX Y h (kvs.map λkv=>if kv.1=zy k then (kv.1,v) else kv) (jx fs k x))/\(zy k∉kvs.map (·.1)->SX Y h (kvs++[(zy k,v)]) (jx fs k x)):=by
  intro kvs fs t
  induction t with
  | nil=>intro _;exact⟨λh=>(nomatch h),λ_=>.cons hk r .nil⟩
  | @cons k' x' v' kvs fs hk' r' t ih=>
   intro nd;rw[gJ] at nd;have nd':=fQ.mp nd;have ih':=ih nd'.2;rw[gJ,gJ];unfold jx;rw[ztd]
   by_cases e:k'=k
   .subst e;rw[H0 rfl];refine⟨λ_=>?_,λhn=>absurd fA hn⟩;rw[if_pos rfl,map_store_of_not_mem kvs _ v nd'.1];exact .cons hk r t
   .have e':¬zy k'=zy k:=λq=>e (ki hk' hk q);rw[Hz e];rw[if_neg e'];refine⟨λhm=>.cons hk' r' (ih'.1 ?_),λhn=>.cons hk' r' (ih'.2 λq=>hn (fB _ q))⟩
    rcases fJ.mp hm with q|q
    .exact absurd q.symm e'
    .exact q
 unfold stored;rw[zqp]
 by_cases hm:zy k∈kvs.map (·.1)
 .rw[H0 hm,if_pos rfl];exact(go t nd).1 hm
 .rw[Hz hm,if_neg pU];exact(go t nd).2 hm
theorem zd6(hD:h.DictOf (strKind X.prog X.w) d kvs):(kvs.map (·.1)).Nodup:=by refine ji hD λ_ _ _ _ _ _ _ _ n=>?_;exact n
theorem zgN(n:Nat)(t:Tok):(strKind X.prog X.w).is (zy n) (.str (zy n) t)=true:=strKind_is _ _ _ _
theorem zm1{A:Around}{E:Value->Shared->Prop}{key c:Value}{P R:Value->Shared->Prop}(h:wpAny X.M A (compareOp .In key c) P E s)(k:∀t s',P (.bool t) s'->R (.bool (!t)) s'):wpAny X.M A (compareOp .NotIn key c) R E s:=by
 have h:wpAny X.M A (do return .bool (<-contains c key)) P E s:=h;refine G8 (λΓ p hΓ=>?_);have:=h Γ p hΓ;rw[Sem.wp_bind'] at this;exact Sem.wp_mono X.M Γ _ (λt _ s' x=>G9 (k t s' (by simpa using x))) (λ_ _ _ x=>x) p s this
variable{A:Around}{E:Value->Shared->Prop}{Q:zl}{k:Nat}{u v:Value}{x:AV}
theorem zuZ(a:At X Y s)(e:Y d=some (.idict fs))(rk:RepV Y s.heap (.str k) u)(q:Q (.bool (kO fs k).isSome) (vis Y)):wpAny X.M A (compareOp .In u (.ref d)) (liftQ X Y s Q) E s:=by
 refine zE (a.rep _ _ e) λkvs hD sx hl hs=>?_;refine zb (RepV.wI rk) λt e2_1 hn=>?_;subst e2_1;refine wpAny_in_of (zgN k t) hs hD.mapOf ?_
 rcases sx.get hn with⟨h1,h2⟩|⟨v,x,h1,h2,_⟩<;>rw[h1]<;>rw[h2] at q<;>exact kU a (.bool _) q
theorem ztq(a:At X Y s)(e:Y d=some (.idict fs))(rk:RepV Y s.heap (.str k) u)(hx:kO fs k=some x)(q:Q x (vis Y)):wpAny X.M A (getItem (.ref d) u) (liftQ X Y s Q) E s:=by
 refine zE (a.rep _ _ e) λkvs hD sx hl hs=>?_;refine zb (RepV.wI rk) λt e4_1 hn=>?_;subst e4_1
 rcases sx.get hn with⟨h1,h2⟩|⟨v,y,h1,h2,r⟩
 .rw[hx] at h2;exact absurd h2 (fP _)
 .rw[hx] at h2;obtain rfl:=Hy h2;exact wpAny_getItem_of (zgN k t) hD.mapOf h1 (kU a r q)
theorem zhf{Y':AHeap}{h':Heap}(a:At X Y s)(e:Y d=some (.idict fs))(hk:k<zao)(rv:RepV Y s.heap x v)(hD:s.heap.DictOf (strKind X.prog X.w) d kvs)(sx:SX Y s.heap kvs fs)(hl:fs.length<100)(kv:KeepV Y s.heap Y' h')
  (hD':h'.DictOf (strKind X.prog X.w) d (stored kvs (zy k) v)):RepA X Y' h' d (.idict (jx fs k x)):=by
 refine zE (a.rep _ _ e) λ_ _ _ _ hs=>?_;exact qm _ hD' ((sx.mono kv).put (zd6 hD) hk (rv.mono kv)) (by have:=zdf fs k x;exact zAb hl this) hs
theorem zts{R:Unit->Shared->Prop}(a:At X Y s)(e:Y d=some (.idict fs))(rk:RepV Y s.heap (.str k) u)(rv:RepV Y s.heap x v)(hl:fs.length<100)
  (q:∀s',At X (Y.set d (.idict (jx fs k x))) s'->Step E0 Y s (Y.set d (.idict (jx fs k x))) s'->R () s'):wpAny X.M A (setItem (.ref d) u v) R E s:=by
 refine zE (a.rep _ _ e) λkvs hD sx _ hs=>?_;refine zb (RepV.wI rk) λt e7_1 hn=>?_;subst e7_1;refine wpAny_setItem_pairs (zgN k t) hD (λh' hD' hs'=>?_) (by rw[sx.length,Hc];exact zvO hl);exact q _ (a.store (t:=_) e rfl hs' λkv=>zhf a e hn rv hD sx hl kv hD') (Step.store (t:=_) e rfl hs')
theorem ztr{R:Unit->Shared->Prop}(a:At X Y s)(e:Y d=some (.idict fs))(rk:RepV Y s.heap (.str k) u)(rv:RepV Y s.heap x v)(hl:fs.length<100)
  (q:∀s',At X (Y.set d (.idict (jx fs k x))) s'->Step E0 Y s (Y.set d (.idict (jx fs k x))) s'->R () s'):wpAny X.M A (dictSet d u v) R E s:=by
 refine zE (a.rep _ _ e) λkvs hD sx _ hs=>?_;refine zb (RepV.wI rk) λt e9_1 hn=>?_;subst e9_1;refine wpAny_dictSet_pairs (hsz:=by rw[sx.length,Hc];exact zvO hl) (zgN k t) hD λh' hD' hs'=>?_;exact q _ (a.store (t:=_) e rfl hs' λkv=>zhf a e hn rv hD sx hl kv hD') (Step.store (t:=_) e rfl hs')
end
structure FlyB(X:Cx)(Y:AHeap)(g:Heap)(x:Addr)(h:Heap):Prop where
 keepS:∀b o,g.get? b=some o->b≠x->∃sl,h.get? b=some { o with slots:=sl }
 keepX:∀b o,g.get? b=some o->b≠x->((∀es n,o.data≠.dict es n)\/Y b≠none\/X.h₀.get? b≠none)->h.get? b=some o
 size:g.objs.size<=h.objs.size
def TrAt(g h:Heap)(x c:Addr)(fl:Value):Prop:=∃vs T tc ts,h.get? x=some (exO c vs)/\vs[1]? = some (.ref T)/\T≠x/\g.get? T=none/\h.get? T=some { cls:=tc,dict:=none,data:=.fields ts,slots:=#[] }/\ts[3]? = some fl
structure FOk(X:Cx)(Y:AHeap)(g:Heap)(x c:Addr):Prop where
 fr:∀L∈X.fr,Y L=none/\IsD g L/\X.h₀.get? L=none
 exg:∃vs,g.get? x=some (exO c vs)
section
variable{X:Cx}{Y:AHeap}{g h h':Heap}{x c:Addr}
theorem FOk.ne(F:FOk X Y g x c){L:Addr}(hL:L∈X.fr):L≠x:=by
 rintro rfl;refine jh ((F.fr L hL).2.1) λo es n h1 h2=>?_;obtain⟨vs,h3⟩:=F.exg;rw[h1] at h3;obtain rfl:=Hy h3;cases h2
theorem FlyB.dict(f:FlyB X Y g x h)(F:FOk X Y g x c){L:Addr}(hL:L∈X.fr):IsD h L:=by
 refine jh ((F.fr L hL).2.1) λo es n h1 h2=>?_;obtain⟨sl,h3⟩:=f.keepS L o h1 (F.ne hL);exact qW _ es n h3 h2
theorem FlyB.frames(f:FlyB X Y g x h)(F:FOk X Y g x c){base:Heap}(hb:∀L∈X.fr,base.get? L=none){envs:List Env}(FO:∀e∈envs,e.scope.kind≠.module/\∃L,e.frame=some L/\L∈X.fr):h.FunFrames base envs:=by
 induction envs with
 | nil=>trivial
 | cons e r ih=>
  refine ko (FO e fA) λh1 L h2 h3=>?_;refine jh (f.dict F h3) λo es n h4 h5=>?_;exact zo h1 (zq L o h2 (hb L h3) h4 (λvs q=>by rw[h5] at q;cases q)) (ih λe he=>FO e (fB _ he))
theorem FlyB.next(f:FlyB X Y g x h)(F:FOk X Y g x c)(k:∀b o,h.get? b=some o->b∉X.fr->b≠x->g.get? b≠none->h'.get? b=some o)(k4:∀b o,b∈X.fr->h.get? b=some o->∃sl,h'.get? b=some { o with slots:=sl })(hz:h.objs.size<=h'.objs.size):FlyB X Y g x h':=by
 refine⟨λb o e hb=>?_,λb o e hb hc=>?_,fE f.size hz⟩
 .obtain⟨sl,h1⟩:=f.keepS b o e hb
  by_cases hf:b∈X.fr
  .obtain⟨sl',h2⟩:=k4 b _ hf h1;exact⟨sl',h2⟩
  .exact⟨sl,k b _ h1 hf hb (by rw[e];exact λq=>nomatch q)⟩
 .refine k b o (f.keepX b o e hb hc) (λq=>?_) hb (by rw[e];exact λq=>nomatch q);refine zZ (F.fr b q) λh1 h8_1 h4=>?_;obtain⟨o',es,n,h2,h3⟩:=h8_1;rw[e] at h2;obtain rfl:=Hy h2
  rcases hc with hc|hc|hc
  .exact hc es n h3
  .exact hc h1
  .exact hc h4
end
section
variable{prog:Hj}{w:World}{A:Around}{E:Value->Shared->Prop}{s:Shared}{X:Cx}{Y:AHeap}{g:Heap}{x c L:Addr}{env:Env}{outer:List Env}{Q:Unit->Shared->Prop}
theorem Fly.b{h:Heap}(f:Fly X Y g x c h):FlyB X Y g x h:=⟨f.keepS,f.keepX,f.size⟩
theorem zjI(FO:FrOk X (env::outer))(a:At X Y { s with heap:=g }){h:Heap}(f:Fly X Y g x c h):FOk X Y g x c:=⟨λL hL=>(zo ((a.ff L hL).1) ((a.ff L hL).2) (FO.out L hL)),f.exg⟩
theorem TrAt.fly{h:Heap}(f:FlyB X Y g x h)(F:FOk X Y g x c)(t:TrAt g h x c .none):Fly X Y g x c h:=by
 refine jU t λvs T tc ts h1 h5 h6 h7 h8 h10=>?_;exact⟨f.keepS,f.keepX,F.exg,f.size,vs,h1,.inr (zH T tc ts h5 h6 h7 h8 h10)⟩
theorem FlyB.entry{vs:Array Value}{head:Value}{hadNext:Bool}(FO:FrOk X (env::outer))(hfr:A.frames=some (env::outer))(hf:env.frame=some L)(F:FOk X Y g x c)(f:FlyB X Y g x s.heap)(he:s.heap.get? x=some (exO c vs))(h1:1<vs.size)
  (hQ:∀h',FlyB X Y g x h'->TrAt g h' x c (rawInt L)->Q () { s with heap:=h' }) :
  wpAny (model prog w) A (do let a <-frameOf env;let pl <-entryPlaceOf L hadNext;let b <-EntryCells.newEntry head a .none (rawInt L) .none pl;setField (.ref x) 1 b) Q E s:=by
 refine G8 (wpAny_frameOf_fun (base:=hideAll s.heap X.fr) hfr (f.frames F (λL hL=>hideAll_none _ hL) FO.is) hf λh₁ hs₁=>?_);have sub:∀b,b∈(env::outer).filterMap (·.frame)->b∈X.fr:=λb hb=>by
  refine zb (fBV.mp hb) λe he hb=>?_;refine ko (FO.is e he) λ_ M h2 h3=>?_;rw[h2] at hb;obtain rfl:=Hy hb;exact h3
 have f1:FlyB X Y g x h₁:=f.next F (λb o e hb _ _=>(hs₁.2.1 b λq=>hb (sub b q)).trans e) (λb o _ e=>hs₁.2.2 b o e) (pC hs₁.1.symm);have he₁:h₁.get? x=some (exO c vs):=(hs₁.2.1 x λq=>F.ne (sub x q) rfl).trans he;refine G8 (wpAny_entryPlaceOf λpl hpl=>?_);refine G8 (wpAny_newObj_type ?_ (hpl.sizeOk5 _ _ _ _ _));have hTx:h₁.objs.size≠x:=fC8 (Heap.lt_size he₁);refine wpAny_setField_rec (Heap.get?_push_of_some _ he₁) h1 λh' e' sb=>hQ h' ?_ ?_
 .refine f1.next F (λb o e _ hb _=>(sb.2 b hb).trans (Heap.get?_push_of_some _ e)) (λb o hb e=>⟨o.slots,(sb.2 b (F.ne hb)).trans (Heap.get?_push_of_some _ e)⟩) ?_;rw[sb.1,Heap.size_push];exact fBJ _
 .refine qX _ h₁.objs.size _ _ e' (by simp[h1]) hTx ?_ ((sb.2 _ hTx).trans (Heap.get?_push_size _ rfl)) rfl;cases q:g.get? h₁.objs.size with
  | none=>rfl
  | some o=>exact absurd (Heap.lt_size q) (pQ.mpr f1.size)
theorem Fly.note(FO:FrOk X (env::outer))(hfr:A.frames=some (env::outer))(hf:env.frame=some L)(a:At X Y { s with heap:=g })(f:Fly X Y g x c s.heap)(hQ:∀h',FlyB X Y g x h'->TrAt g h' x c (rawInt L)->Q () { s with heap:=h' }):wpAny (model prog w) A (noteFrame (.ref x) env) Q E s:=by
 have F:=zjI FO a f;refine zb f.exh λvs h1 h5=>?_;unfold noteFrame;simp only[hf]
 rcases h5 with h5|⟨T,tc,ts,h5,h6,h7,h8,h10⟩
 .refine G8 (wpAny_field h1 rfl h5 ?_);rw[if_neg (by decide)];exact f.b.entry FO hfr hf F h1 (pV.mp h5).1 hQ
 .refine G8 (wpAny_field h1 rfl h5 ?_);refine G8 (wpAny_field h8 rfl h10 ?_);refine G8 (wpAny_setField_rec h8 (pV.mp h10).1 λh' e' sb=>?_);have hT:∀b,g.get? b≠none->b≠T:=λb hb q=>hb (q▸h7);have f':FlyB X Y g x h':=f.b.next F (λb o e _ _ hg=>(sb.2 b (hT b hg)).trans e) (λb o hb e=>⟨o.slots,(sb.2 b (hT b (by refine jh ((F.fr b hb).2.1) λo _ _ h _=>?_;rw[h];exact λq=>nomatch q))).trans e⟩) (pC sb.1.symm);exact FlyB.entry (s:={ s with heap:=h' }) FO hfr hf F f' ((sb.2 x h6.symm).trans h1) (pV.mp h5).1 hQ
theorem FlyB.vJ{fl:Value}(F:FOk X Y g x c)(f:FlyB X Y g x s.heap)(t:TrAt g s.heap x c fl)(hQ:∀h',Fly X Y g x c h'->TrAt g h' x c .none->Q () { s with heap:=h' }):wpAny (model prog w) A (setFlight (.ref x) none) Q E s:=by
 refine jU t λvs T tc ts h1 h5 h6 h7 h8 h10=>?_;have h3:3<ts.size:=(pV.mp h10).1;refine G8 (wpAny_field h1 rfl h5 ?_);refine wpAny_setField_rec h8 h3 λh' e' sb=>?_;have hT:∀b,g.get? b≠none->b≠T:=λb hb q=>hb (q▸h7);have f':FlyB X Y g x h':=f.next F (λb o e _ _ hg=>(sb.2 b (hT b hg)).trans e) (λb o hb e=>⟨o.slots,(sb.2 b (hT b (by refine jh ((F.fr b hb).2.1) λo _ _ h _=>?_;rw[h];exact λq=>nomatch q))).trans e⟩) (pC sb.1.symm);have t':TrAt g h' x c .none:=(qX vs T tc _ ((sb.2 x h6.symm).trans h1) h5 h6 h7 e' (by simp[h3]))
 exact hQ h' (TrAt.fly f' F t') t'
theorem Fly.vM(FO:FrOk X (env::outer))(hfr:A.frames=some (env::outer))(hf:env.frame=some L)(a:At X Y { s with heap:=g })(f:Fly X Y g x c s.heap)(hQ:∀h',Fly X Y g x c h'->Q () { s with heap:=h' }):wpAny (model prog w) A (leaving env (.ref x)) Q E s:=by
 exact G8 (f.note FO hfr hf a λh' f' t'=>FlyB.vJ (s:={ s with heap:=h' }) (zjI FO a f) f' t' λh2 f2 _=>hQ h2 f2)
theorem Fly.keepV{h:Heap}(f:Fly X Y g x c h):KeepV Y g Y h:=⟨λb o e st=>by
 by_cases hb:b=x
 .subst hb;obtain⟨vs1,h1⟩:=f.exg;refine zb f.exh λvs h4 _=>?_;rw[e] at h1;obtain rfl:=Hy h1;exact zc _ h4 (.inr (qW c vs1 vs rfl rfl))
 .refine zc o (f.keepX b o e hb (.inl λes n q=>?_)) (.inl rfl)
  rcases st with⟨_,xs,k,h1⟩|⟨_,vs,h1⟩|⟨_,vs,_,h1⟩<;>(rw[h1] at q;cases q),λ_ _ e=>e⟩
theorem Fly.at(FOo:∀L∈X.fr,X.h₀.get? L=none)(a:At X Y { s with heap:=g })(hx:X.h₀.get? x=none)(f:Fly X Y g x c s.heap):At X Y s:=by
 have hxσ:Y x=none:=by
  obtain⟨vs,h1⟩:=f.exg;exact a.stays h1 (.inr (.inr (zaA c vs rfl rfl)))
 have F:FOk X Y g x c:=⟨λL hL=>(zo ((a.ff L hL).1) ((a.ff L hL).2) (FOo L hL)),f.exg⟩
 refine⟨λb o e=>f.keepX b o (a.keep b o e) (λq=>by rw[q,hx] at e;cases e) (.inr (.inr (by rw[e];exact λq=>nomatch q))),λb o e=>(a.rep b o e).mono f.keepV λob hob=>?_,a.own,a.gens,a.os,λL hL=>⟨(a.ff L hL).1,f.b.dict F hL⟩⟩;exact f.keepX b ob hob (λq=>by rw[q,hxσ] at e;cases e) (.inr (.inl (by rw[e];exact λq=>nomatch q)))
theorem Fly.step{B:Addr->Prop}{Y0:AHeap}{s0:Shared}(hx:New Y0 s0 x)(st:Step B Y0 s0 Y { s with heap:=g })(f:Fly X Y g x c s.heap):Step B Y0 s0 Y s:=by
 have hne:∀{b:Addr} {o:Obj},s0.heap.get? b=some o->Y0 b=none->b≠x:=λe h q=>hx _ (q▸e) (q▸h);refine⟨λb o e h1 h2 h3=>f.keepX b o (st.keep b o e h1 h2 h3) (hne e h1) (.inl h3),λb o e h1 h2=>?_,st.fresh,fE st.size f.size,st.frz⟩;obtain⟨sl,h3⟩:=st.keepD b o e h1 h2;obtain⟨sl',h4⟩:=f.keepS b _ h3 (hne e h1);exact⟨sl',h4⟩
end
def zuP(X:Cx)(Y:AHeap)(s:Shared)(Q:zl)(Z:XP):Result->Shared->Prop:=λr s'=>match r with
 | .ok (.ret v)=>liftQ X Y s Q v s'
 | .ok _=>False
 | .error e=>liftX X Y s Z e s'
@[irreducible] noncomputable def CallOk(X:Cx)(f:Addr)(d:Dp)(args:List AV)(Q:zl)(Z:XP)(Y₀:AHeap):Prop:=
 ∀A s vs Y,vis Y=Y₀->Live X d A->At X Y s->RepVs Y s.heap args vs->Hk X.M A (.call (.ref f) ⟨vs,[]⟩) (zuP X Y s Q Z) s
structure FnOk(X:Cx)(f:Addr)(ps:List Str)(body:List Stmt)(scope:Scope):Prop where
 ex:∃o fd,X.h₀.get? f=some o/\o.data = .func fd/\fd.scope=scope/\fd.body = .stmts body/\fd.closure=[]/\fd.globals=Hm/\fd.builtins=builtinsNs/\X.h₀.CodeRec fd.code fd.qualname/\
  ∀vs,vs.length=ps.length->bindArgs fd ⟨vs,[]⟩=pure (ps.zip vs)
structure NamesOk(names:List (Str×NameKind))(nm:List (Str×Nat))(ps:List Str)(N:Nat):Prop where
 nodup:(names.map (·.1)).Nodup
 kinds:∀x i,nm.lookup x=some i->i<N/\(names.lookup x=some .local\/names.lookup x=some .cell)
 inj:∀x y i,nm.lookup x=some i->nm.lookup y=some i->x=y
 par:∀x i,nm.lookup x=some i->∀p,ps[i]? = some p->p=x
 par':∀(i:Nat) p,ps[i]? = some p->nm.lookup p=some i
 le:ps.length<=N
 len:kC nm=N
 psnd:ps.Nodup
theorem zbC{x:Str}(names:List (Str×NameKind)):∀(n:Nat) (acc:List (Str×Addr)),names.lookup x=some .cell\/(acc.lookup x).isSome=true->((cellsFrom n names acc).lookup x).isSome=true:=by
 induction names with
 | nil=>exact λ_ _ h=>h.elim (λe=>nomatch e) id
 | cons p r ih=>
  intro n acc h;show ((if (p.2==.cell)=true then cellsFrom (n+1) r ((p.1,n)::acc) else cellsFrom n r acc).lookup x).isSome=true
  by_cases hy:x=p.1
  .subst hy;rw[pG,beq_self_eq_true] at h
   by_cases hk:(p.2==.cell)=true
   .rw[if_pos hk];exact ih _ _ (.inr (by rw[pG,beq_self_eq_true];rfl))
   .rw[if_neg hk];exact ih _ _ (.inr (h.elim (λe=>absurd (by rw[Hy e];rfl) hk) id))
  .have h:=h.imp (λe=>(jP hy).symm.trans e) id;split
   .exact ih _ _ (h.imp id λe=>by rw[jP hy];exact e)
   .exact ih _ _ h
theorem zd5(names:List (Str×NameKind)):∀(n:Nat) (acc:List (Str×Addr)),(names.map (·.1)).Nodup->(acc.map (·.1)).Nodup->(∀x,x∈acc.map (·.1)->x∉names.map (·.1))->((cellsFrom n names acc).map (·.1)).Nodup:=by
 induction names with
 | nil=>exact λ_ _ _ h _=>h
 | cons p r ih=>
  intro n acc hn ha hd;have hn':=fQ.mp hn;have hd':∀x,x∈acc.map (·.1)->x∉r.map (·.1):=λx hx q=>hd x hx (fB _ q);show ((if (p.2==.cell)=true then cellsFrom (n+1) r ((p.1,n)::acc) else cellsFrom n r acc).map (·.1)).Nodup;split
  .exact ih _ _ hn'.2 (fQ.mpr ⟨λq=>hd _ q fA,ha⟩) (fM.mpr ⟨hn'.1,hd'⟩)
  .exact ih _ _ hn'.2 ha hd'
theorem zbU{α:Type}{r:List (Str×α)}{x:Str}(h:x∉r.map (·.1)):r.lookup x=none:=by
 cases e:r.lookup x with
 | none=>rfl
 | some c=>exact absurd (gS (f:=(·.1)) (mem_of_lookup e)) h
theorem zn0{kindOf:Str->Option NameKind}{x:Str}(hx:kindOf x=some .local)(binds:List (Str×Value)):∀(m:Str->Option Value),(binds.map (·.1)).Nodup->bindL kindOf binds m x=(binds.lookup x).or (m x):=by
 induction binds with
 | nil=>exact λ_ _=>rfl
 | cons p r ih=>
  intro m hn;have hn':=fQ.mp hn;show bindL kindOf r (if kindOf p.1=some .local then λy=>if y=p.1 then some p.2 else m y else m) x=_;rw[ih _ hn'.2]
  by_cases hy:x=p.1
  .subst hy;rw[zbU hn'.1,pG,beq_self_eq_true];simp[hx]
  .rw[show List.lookup x (p::r)=_ from jP hy];split
   .simp[hy]
   .rfl
theorem znZ{kindOf:Str->Option NameKind}{x:Str}(hx:kindOf x=some .cell)(binds:List (Str×Value)):∀(m:Str->Option Value),(binds.map (·.1)).Nodup->bindC kindOf binds m x=(binds.lookup x).or (m x):=by
 induction binds with
 | nil=>exact λ_ _=>rfl
 | cons p r ih=>
  intro m hn;have hn':=fQ.mp hn;show bindC kindOf r (if kindOf p.1=some .local then m else λy=>if y=p.1 then some p.2 else m y) x=_;rw[ih _ hn'.2]
  by_cases hy:x=p.1
  .subst hy;rw[zbU hn'.1,pG,beq_self_eq_true];simp[hx]
  .rw[show List.lookup x (p::r)=_ from jP hy];split
   .rfl
   .simp[hy]
theorem zk3{ps:List Str}:∀{vs:List Value} {i:Nat} {x:Str},ps.Nodup->ps.length=vs.length->ps[i]? = some x->(ps.zip vs).lookup x=vs[i]?:=by
 induction ps with
 | nil=>intro vs i x _ _ h;cases h
 | cons p ps ih=>
  intro vs i x hn hl h;cases vs with
  | nil=>cases hl
  | cons v vs=>
   cases i with
   | zero=>simp at h;subst h;simp
   | succ i=>
    have hn':=fQ.mp hn;rw[fAS] at h;have hne:(x==p)=false:=by
     cases hb:x==p with
     | false=>rfl
     | true=>rw[beq_iff_eq.mp hb] at h;exact absurd (fAB h) hn'.1
    rw[fCO,pG,hne,fAS];exact ih hn'.2 (Nat.succ.inj hl) h
theorem zdM{ps:List Str}{vs:List Value}{x:Str}(h:x∉ps):(ps.zip vs).lookup x=none:=zbU λq=>by
 refine zb (fO.mp q) λp hp e=>?_;exact h (e▸(fCH (a:=p.1) (b:=p.2) hp).1)
noncomputable def zgR(args:List AV)(N:Nat):Loc:=args.map some++List.replicate (N-args.length) none
theorem zoS(args:List AV)(N i:Nat):(zgR args N).getD i none=args[i]?:=by
 unfold zgR;rw[fS]
 by_cases h:i<args.length
 .rw[pF (by simpa using h),pZ];rw[fU h];rfl
 .rw[pN (by simpa using pQ.mp h),List.getElem?_replicate,fAK (pQ.mp h)];split<;>rfl
noncomputable def zsj:Fl->AV
 | .next=>.none
 | .ret v=>v
theorem RepVs.getO{Y:AHeap}{h:Heap}{xs:List AV}{vs:List Value}(r:RepVs Y h xs vs):∀(i:Nat),RepO Y h xs[i]? vs[i]?:=by
 induction xs generalizing vs with
 | nil=>obtain rfl:=RepVs.wG r;intro i;simp;trivial
 | cons x xs ih=>
  obtain⟨_,_,rfl,a,r⟩:=RepVs.wF r;intro i;cases i with
  | zero=>exact a
  | succ i=>simpa using ih r i
mutual
inductive Fz(φ:Addr->Option (List AV)):AV->AV->Prop
 | same (x:AV):Fz φ x x
 | lst {a:Addr} {ys:List AV}:φ a=some ys->Fz φ (.ref a) (.lst ys)
 | tup {xs ys:List AV}:FzL φ xs ys->Fz φ (.tup xs) (.tup ys)
inductive FzL(φ:Addr->Option (List AV)):List AV->List AV->Prop
 | nil:FzL φ [] []
 | cons {x y:AV} {xs ys:List AV}:Fz φ x y->FzL φ xs ys->FzL φ (x::xs) (y::ys)
end
structure FzOk(φ:Addr->Option (List AV))(Y Y':AHeap):Prop where
 lst:∀a ys,φ a=some ys->Y' a=none/\∃xs,Y a=some (.list xs)/\FzL φ xs ys
 sub:∀a o,Y' a=some o->Y a=some o
@[irreducible] noncomputable def Ends(Q:zl)(v:AV)(Y:AHeap):Prop:=∃φ Y' v',FzOk φ Y Y'/\Fz φ v v'/\Q v' Y'
theorem FzL.length{φ:Addr->Option (List AV)}{xs ys:List AV}(h:FzL φ xs ys):ys.length=xs.length:=by
 induction xs generalizing ys with
 | nil=>cases h;rfl
 | cons x xs ih=>cases h with|cons _ r=>rw[fH,fH,ih r]
noncomputable def fzH(φ:Addr->Option (List AV))(Y Y':AHeap):AHeap:=λa=>match Y a with
 | some (.frz xs)=>some (.frz xs)
 | _=>match φ a with
  | some ys=>some (.frz ys)
  | none=>Y' a
section
variable{X:Cx}{φ:Addr->Option (List AV)}{Y Y':AHeap}{s:Shared}(H:FzOk φ (vis Y) Y')
include H
theorem zor{a:Addr}{xs:List AV}(h:Y a=some (.frz xs)):fzH φ Y Y' a=some (.frz xs):=by unfold fzH;rw[h]
theorem zos{a:Addr}{ys:List AV}(h:φ a=some ys):fzH φ Y Y' a=some (.frz ys):=by
 refine ko (H.lst a ys h) λ_ xs h1 _=>?_;unfold fzH;rw[(zG h1).1,h]
theorem zqE{a:Addr}(h1:∀xs,Y a≠some (.frz xs))(h2:φ a=none):fzH φ Y Y' a=Y' a:=by
 unfold fzH;split
 .rename_i xs e;exact absurd e (h1 xs)
 .rw[h2]
theorem za9{a:Addr}{o:AO}(h:fzH φ Y Y' a=some o):(∃xs,o = .frz xs/\Y a=some (.frz xs))\/(∃ys,o = .frz ys/\φ a=some ys)\/(Y' a=some o/\Y a=some o/\o.ro=false):=by
 unfold fzH at h;split at h
 .rename_i xs e;obtain rfl:=Hy h;exact .inl (zc xs rfl e)
 .split at h
  .rename_i ys e;obtain rfl:=Hy h;exact .inr (.inl (zc ys rfl e))
  .have:=zG (H.sub a o h);exact .inr (.inr (zo h this.1 this.2))
theorem zsN:vis (fzH φ Y Y')=Y':=by
 funext a
 cases e:fzH φ Y Y' a with
 | none=>
  rw[qw e];cases e':Y' a with
  | none=>rfl
  | some o=>
   have h1:=zG (H.sub a o e');cases e2:φ a with
   | some ys=>rw[zos H e2] at e;exact absurd e (fP _)
   | none=>rw[zqE H (λxs q=>by rw[h1.1] at q;obtain rfl:=Hy q;cases h1.2) e2,e'] at e;exact absurd e (fP _)
 | some o=>
  rcases za9 H e with⟨xs,rfl,h1⟩|⟨ys,rfl,h1⟩|⟨h1,_,h2⟩
  .have:vis (fzH φ Y Y') a=none:=by unfold vis;rw[e]
   rw[this];cases e':Y' a with
   | none=>rfl
   | some o=>have h3:=zG (H.sub a o e');rw[h1] at h3;have:=h3.1;obtain rfl:=Hy this;cases h3.2
  .have:vis (fzH φ Y Y') a=none:=by unfold vis;rw[e]
   rw[this,(H.lst a ys h1).1]
  .rw[zhs e h2,h1]
theorem zgD:KeepV Y s.heap (fzH φ Y Y') s.heap:=⟨λb o e _=>(zc o e (.inl rfl)),λb xs e=>zor H e⟩
theorem zot{x y:AV}{v:Value}(f:Fz φ x y)(r:RepV Y s.heap x v):RepV (fzH φ Y Y') s.heap y v:=by
 refine Fz.rec (motive_1:=λx y _=>∀v,RepV Y s.heap x v->RepV (fzH φ Y Y') s.heap y v) (motive_2:=λxs ys _=>∀vs,RepVs Y s.heap xs vs->RepVs (fzH φ Y Y') s.heap ys vs) ?_ ?_ ?_ ?_ ?_ f v r
 .intro x v r;exact r.mono (zgD H)
 .intro a ys h v r;obtain rfl:=RepV.wM r;exact .lst (zos H h)
 .intro xs ys h ih v r;refine zj (RepV.wH r) λ_ _ e2_2 hl ht rs=>?_;subst e2_2;exact .tup (by rw[h.length];exact hl) ht (ih _ rs)
 .intro vs r;obtain rfl:=RepVs.wG r;exact .nil
 .intro x y xs ys _ _ h1 h2 vs r;obtain⟨_,_,rfl,a,r⟩:=RepVs.wF r;exact .cons (h1 _ a) (h2 _ r)
theorem zqF{xs ys:List AV}{vs:List Value}(f:FzL φ xs ys)(r:RepVs Y s.heap xs vs):RepVs (fzH φ Y Y') s.heap ys vs:=by
 induction xs generalizing ys vs with
 | nil=>cases f;obtain rfl:=RepVs.wG r;exact .nil
 | cons x xs ih=>cases f with|cons f1 f2=>cases r with|cons r1 r2=>exact .cons (zot H f1 r1) (ih f2 r2)
theorem At.fz(a:At X Y s):At X (fzH φ Y Y') s:=by
 refine⟨a.keep,λb o e=>?_,λb o e hro=>?_,a.gens,a.os,λL hL=>⟨?_,(a.ff L hL).2⟩⟩
 .rcases za9 H e with⟨xs,rfl,h1⟩|⟨ys,rfl,h1⟩|⟨_,h1,_⟩
  .exact(a.rep _ _ h1).mono (zgD H) λ_ h=>h
  .refine ko (H.lst b ys h1) λ_ xs h2 h3=>?_;refine zh (a.isList0 (.inl (zG h2).1)) λvs h4 h5 h6=>?_;exact zr vs h4 (zqF H h3 h5) (by rw[h3.length];exact h6)
  .exact(a.rep _ _ h1).mono (zgD H) λ_ h=>h
 .rcases za9 H e with⟨xs,rfl,h1⟩|⟨ys,rfl,h1⟩|⟨_,h1,_⟩
  .cases hro
  .cases hro
  .exact a.own _ _ h1 hro
 .cases e:fzH φ Y Y' L with
  | none=>rfl
  | some o=>
   have h0:=(a.ff L hL).1
   rcases za9 H e with⟨xs,rfl,h1⟩|⟨ys,rfl,h1⟩|⟨_,h1,_⟩
   .rw[h1] at h0;exact absurd h0 (fP _)
   .refine ko (H.lst L ys h1) λ_ xs h2 _=>?_;rw[(zG h2).1] at h0;exact absurd h0 (fP _)
   .rw[h1] at h0;exact absurd h0 (fP _)
theorem Step.fz{B:Addr->Prop}:Step B Y s (fzH φ Y Y') s:=.mk' (λ_ _ e _ _=>e) (λb h1 h2=>by
  cases e:fzH φ Y Y' b with
  | none=>exact absurd e h1
  | some o=>
   rcases za9 H e with⟨xs,rfl,h3⟩|⟨ys,rfl,h3⟩|⟨_,h3,_⟩
   .rw[h3] at h2;exact absurd h2 (fP _)
   .refine ko (H.lst b ys h3) λ_ xs h4 _=>?_;rw[(zG h4).1] at h2;exact absurd h2 (fP _)
   .rw[h3] at h2;cases h2) (fN _) λb xs e=>zor H e
end
theorem At.pop{X:Cx}{L:Env}{Y:AHeap}{s:Shared}(a:At (X.push L) Y s):At X Y s:=⟨a.keep,a.rep,a.own,a.gens,a.os,λM hM=>a.ff M (fB _ hM)⟩
section
variable{X:Cx}
theorem zmg{f:Addr}{ps:List Str}{body:List Stmt}{scope:Scope}{nm:List (Str×Nat)}{N:Nat}{d:Dp}{m:Env->AS}{args:List AV}{Q:zl}{Z:XP}{Y₀:AHeap}(XO:X.Ok)(FN:FnOk X f ps body scope)(NO:NamesOk scope.names nm ps N)
  (hk:scope.kind = .function)(hco:scope.isCoroutine=false)(hgen:scope.isGenerator=false)(hs:∀env,EnvOk env->env.scope=scope->j8 (X.push env) env nm body (m env))(hd:d.n<600)(hlen:args.length=ps.length)
  (h:∀L,m L ⟨d.n+1,d.hd⟩ (zgR args N) (λfl _ Y'=>Ends Q (zsj fl) Y') (λc _ Y'=>Z c Y') Y₀):CallOk X f d args Q Z Y₀:=by
 unfold CallOk;intro A s vs Y hσ L a rv;subst hσ;refine zfe FN.ex λo fd ho hfd hsc hbd hcl hgl hbi hcd hbind=>?_;have hvl:vs.length=ps.length:=by rw[<-rv.length];exact hlen
 have hps:ps.Nodup:=NO.psnd;have hbn:((ps.zip vs).map (·.1)).Nodup:=by
  have:(ps.zip vs).map (·.1)=ps:=by
   rw[List.map_fst_zip];exact ztR hvl
  rw[this];exact hps
 subst hsc;refine codeAny_call_function (fd:=fd) (by have:=L.depth;have:=L.small;show A.depth<1000;exact zAd hd (by assumption)) (a.keep _ _ ho) hfd hco hgen hbd (hcd.keeps a.keep) ?_;rw[hbind vs hvl,hcl,hgl,hbi];refine G9 (wpAny_newFunctionEnv_cells hk (λx hx=>?_) λenv he s1 IC=>?_)
 .have hm:x.1∈ps:=by
   have:=gS (f:=(·.1)) hx;rwa [List.map_fst_zip (ztR hvl)] at this
  obtain⟨i,hi⟩:=fAL.mp hm
  rcases(NO.kinds x.1 i (NO.par' i _ hi)).2 with q|q
  .exact .inl q
  .exact .inr ⟨q,zbC _ _ _ (.inl q)⟩
 subst he;generalize henv:newEnv fd.scope s.heap.objs.size Hm (cellsFrom (s.heap.objs.size+1) fd.scope.names []) (fd.qualname++".<locals>.") (some f) fd.code none builtinsNs=env at IC ⊢;have eL:env.locals=s.heap.objs.size:=by rw[<-henv];rfl
 have eC:env.cells=cellsFrom (s.heap.objs.size+1) fd.scope.names []:=by rw[<-henv];rfl
 have eS:env.scope=fd.scope:=by rw[<-henv];rfl
 have eK:∀x,env.kindOf x=fd.scope.names.lookup x:=λx=>by unfold Env.kindOf;rw[eS]
 have EO:EnvOk env:=⟨by rw[eS];exact hk,by rw[<-henv];rfl,by rw[<-henv];rfl,IC.apart⟩
 have keep:=IC.toInCall.keep;refine z9 IC.toInCall.same λh1 tk hs1=>?_;have kv:KeepV Y s.heap Y s1.heap:=.ext keep;have a1:At (X.push env) Y s1:=⟨λb o e=>keep b o (a.keep b o e),λb ao e=>(a.rep b ao e).mono kv λo ho=>keep b o ho,a.own,by rw[hs1];exact a.gens,by rw[hs1];exact a.os,λM hM=>by
  rcases fJ.mp hM with rfl|hM
  .exact⟨by rw[eL];exact a.none_of_size (fN _),zoI IC.toInCall.ns⟩
  .exact a.ffk keep M hM⟩
 have cnd:(env.cells.map (·.1)).Nodup:=by rw[eC];exact zd5 _ _ _ NO.nodup .nil λx hx=>by simp at hx
 have new:∀c:Nat,s.heap.objs.size<=c->Y c=none/\X.h₀.get? c=none:=λc hc=>⟨a.none_of_size hc,by
  cases e:X.h₀.get? c with
  | none=>rfl
  | some o=>have:=ltA (a.keep c o e);lia⟩
 have val:∀x i,nm.lookup x=some i->RepO Y s1.heap ((zgR args N).getD i none) ((ps.zip vs).lookup x):=λx i hx=>by
  rw[zoS]
  by_cases hi:i<ps.length
  .have hp:ps[i]? = some ps[i]:=fU hi;have hpx:=NO.par x i hx _ hp;rw[<-hpx,zk3 hps (zAj hvl) hp];exact(rv.getO i).mono kv
  .have:x∉ps:=λq=>by
    obtain⟨j,hj⟩:=fAL.mp q;have h2:=NO.par' j x hj;rw[hx] at h2;obtain rfl:=Hy h2;exact hi (fW.mp hj).1
   rw[zdM this,fAK (zwP hlen hi)]
   trivial
 have F1:FR (X.push env) env nm (zgR args N) Y s1.heap:=by
  refine⟨(zc _ IC.toInCall.ns (λx i hx hkx=>?_)),λx i hx hkx=>?_,by rw[eL];exact new _ (fN _),⟨λx i hx=>?_,NO.inj⟩,?_,λx c hx=>?_⟩
  .rw[zn0 hkx _ _ hbn,Option.or_none];exact val x i hx
  .have hsome:=zbC (x:=x) fd.scope.names (s.heap.objs.size+1) [] (.inl (by rw[<-eK];exact hkx));rw[<-eC] at hsome;obtain⟨c,hc⟩:=fAA.mp hsome;refine zN c _ hc (IC.cell x c hc) ?_;rw[znZ hkx _ _ hbn,Option.or_none];exact val x i hx
  .have:=(NO.kinds x i hx).1;have hle:=NO.le;unfold zgR;rw[fF,fC,fBH];exact zBg this
  .have hle:=NO.le;unfold zgR;rw[fF,fC,fBH,NO.len];exact zBk hlen hle
  .have hc:=IC.above x c hx;rw[eL] at hc;have hc':s.heap.objs.size<=c:=fBA hc;exact zay ((new c hc').1) ((new c hc').2) _ (IC.cell x c (j9 cnd hx))
 refine⟨XO.nolimit.keeps λb o e=>keep b o (a.keep b o e),?_⟩;refine zmi (codeAny_func ?_);have eF:env.frame=some env.locals:=by rw[<-henv];rfl
 obtain⟨envs,hfr,FO⟩:∃envs,(A.deeper env).frames=some (env::envs)/\FrOk (X.push env) (env::envs):=by
  refine zh L.frames λenvs h1 h2 _=>?_;refine⟨envs,Around.frames_deeper h1,λe he=>?_,λM hM=>?_⟩
  .rcases fJ.mp he with rfl|he
   .exact kP (by rw[eS,hk];decide) _ eF fA
   .refine ko (h2.is e he) λk1 M k2 k3=>?_;exact kP k1 M k2 (fB _ k3)
  .rcases fJ.mp hM with rfl|hM
   .rw[eL];exact(new _ (fN _)).2
   .exact h2.out M hM
 have L1:Live (X.push env) ⟨d.n+1,d.hd⟩ (A.deeper env):=⟨by have:=L.depth;show A.depth+1<=301+(d.n+1);exact zwr this,by have:=L.units;show A.units+3<=20+8*(d.n+1);exact zz0 this,L.handled,hd,_,hfr,FO,λe he=>by cases he;exact⟨_,rfl⟩⟩
 have szL:s.heap.objs.size<s1.heap.objs.size:=by
  have:=IC.toInCall.ns.lt;rw[eL] at this;exact this
 have back:∀{Y2:AHeap} {s2:Shared},Step (FB env) Y s1 Y2 s2->Step E0 Y s Y2 s2:=λ{Y2 s2} st2=>by
  have st0:Step (FB env) Y s Y s1:=.same (λb o e _=>keep b o e) (fBA szL);refine(st0.trans st2).drop λb hb=>?_
  rcases hb with hb|⟨x,hx⟩
  .rw[eL] at hb;rw[hb];exact .inr (fN _)
  .have hc:=IC.above x b hx;rw[eL] at hc;exact .inr (fBA hc)
 refine Ha (hs env EO eS ⟨d.n+1,d.hd⟩ (A.deeper env) _ Y s1 _ _ L1 a1 F1 (h env)) (λfl s2 hpz hsz=>qc hpz λafl l2 Y2 r2 a2 F2 st2 q2=>?_) λe s2 hpz=>kq hpz λc l2 Y2 x g he hx a2 F2 st2 f z=>?_
 case refine_2=>
  have hx:=hx.1;subst he;refine Fly.vM FO hfr eF a2 f λh' f' hsz=>?_;exact qX c Y2 x g rfl (λo e q=>hx o (keep _ _ e) q) a2.pop (back st2) ⟨f'.keepS,f'.keepX,f'.exg,f'.size,f'.exh⟩ z
 have st:=back st2;unfold Ends at q2;refine jt q2 λφ Y3 v' fz fv q3=>?_;refine zq v' (fzH φ Y2 Y3) (zot fz fv ?_) ((At.fz fz a2).pop) (st.trans (Step.fz fz)) (by rw[zsN fz];exact q3);cases fl with
 | next=>cases afl with
  | next=>exact RepV.none
  | ret v=>exact r2.elim
 | ret v=>cases afl with
  | next=>exact r2.elim
  | ret av=>exact r2
 | brk=>cases afl<;>exact r2.elim
 | cont=>cases afl<;>exact r2.elim
end
def zuE(a:AV)(Q:List AV->AHeap->Prop):List AV->AHeap->Prop:=λas Y2=>Q (a::as) Y2
def zux(F:Dp->Loc->(List AV->AHeap->Prop)->XP->AHeap->Prop)(d:Dp)(l:Loc)(Q:List AV->AHeap->Prop)(Z:XP):zl:=λa Y1=>F d l (zuE a Q) Z Y1
def za7(ms:List AE):Dp->Loc->(List AV->AHeap->Prop)->XP->AHeap->Prop:=match ms with
 | []=>λ_ _ Q _ Y=>Q [] Y
 | m::ms=>λd l Q Z Y=>m d l (zux (za7 ms) d l Q Z) Z Y
noncomputable def jq(e:Expr):Bool:=!Nat.beq e.ctorIdx 22
theorem zK{e:Expr}{rest:List Expr}{env:Env}(h:jq e=true):starEach (e::rest) env=(false,eval e env)::starEach rest env:=by
 cases e<;>first|rfl|exact nob h
inductive SoundEs(X:Cx)(env:Env)(nm:List (Str×Nat)):List Expr->List AE->Prop
 | nil:SoundEs X env nm [] []
 | cons {e es m ms}:jq e=true->zi X env nm e m->SoundEs X env nm es ms->SoundEs X env nm (e::es) (m::ms)
section
variable{X:Cx}{env:Env}{nm:List (Str×Nat)}
theorem SoundEs.plain{pos:Pos}{es:List Expr}{ms:List AE}(h:SoundEs X env nm es ms):(backTo pos (starEach es env)).any (·.1)=false:=by
 induction h with
 | nil=>rfl
 | cons hs _ r ih=>
  rw[zK hs];show (false||(backTo pos (starEach _ env)).any (·.1))=false;rw[ih];rfl
theorem kW{pos:Pos}{es ms}(h0:SoundEs X env nm es ms):∀{d A l Y s Q Z},Live X d A->At X Y s->FR X env nm l Y s.heap->za7 ms d l Q Z (vis Y)->
  wpAny X.M A (spliced (backTo pos (starEach es env))) (zsb X Y s Q) (liftX X Y s Z) s:=by
 induction h0 with
 | nil=>intro d A l Y s Q Z L a F q;exact G9 ⟨[],Y,.nil,a,.refl ..,q⟩
 | @cons e es m ms hs he r ih=>
  intro d A l Y s Q Z L a F q;rw[zK hs];show wpAny X.M A (spliced ((false,eval e env)::backTo pos (starEach es env))) _ _ s;refine Calls.spliced_cons (zam (he d A l Y s _ Z L a F q) λav v Y1 s1 rv a1 st1 q1=>?_);refine Ha (ih L a1 (F.step a st1) q1) (λvs s2 x=>?_) λ_ _ x=>x.back st1;refine zj x λavs Y2 rvs a2 st2 q2=>?_;exact zq (av::avs) Y2 (.cons (rv.mono (st2.keepV0 a1)) rvs) a2 (st1.trans st2) q2
theorem qH{f:Value}{pos:Pos}{es ms}(h:SoundEs X env nm es ms){d A l Y s Q Z}(L:Live X d A)(a:At X Y s)(F:FR X env nm l Y s.heap)(q:za7 ms d l Q Z (vis Y)){R:Args->Shared->Prop}
  (k:∀vs s',zsb X Y s Q vs s'->R ⟨vs,[]⟩ s'):wpAny X.M A (evalArgs f true (backTo pos (starEach es env)) []) R (liftX X Y s Z) s:=by
 cases h with
 | nil=>exact PyProof.Rows.evalArgs_none (k [] s (zq [] Y .nil a (.refl ..) q))
 | cons hs he r=>
  have:=kW (pos:=pos) (.cons hs he r) L a F q;rw[zK hs] at this ⊢;exact Calls.evalArgs_plain (Ha this (λvs s' x=>k vs s' x) λ_ _ x=>x)
end
def mkL(r:Bool)(xs:List AV)(Q:zl)(Y:AHeap):Prop:=match r with
 | true=>∀p,Y p=none->Q (.ref p) (Y.set p (.list xs))
 | false=>Q (.lst xs) Y
namespace A
def zyf(Q:zl):List AV->AHeap->Prop:=λas Y'=>zdK as.length (Q (.tup as) Y')
def zx9(r:Bool)(Q:zl):List AV->AHeap->Prop:=λas Y'=>zdK as.length (mkL r as Q Y')
def zuA(X:Cx)(f:Addr)(d:Dp)(Q:zl)(Z:XP):List AV->AHeap->Prop:=λas Y'=>CallOk X f d as Q Z Y'
def tup(xs:List AE):AE:=λd l Q Z Y=>za7 xs d l (zyf Q) Z Y
def lst(r:Bool)(xs:List AE):AE:=λd l Q Z Y=>za7 xs d l (zx9 r Q) Z Y
def wE(X:Cx)(f:Addr)(args:List AE):AE:=λd l Q Z Y=>za7 args d l (zuA X f d Q Z) Z Y
end A
section
variable{X:Cx}{env:Env}{nm:List (Str×Nat)}
theorem zeE{A:Around}{Y:AHeap}{s:Shared}{Q:zl}{E}{as:List AV}{vs:List Value}(a:At X Y s)(r:RepVs Y s.heap as vs)(hl:as.length<=1000000)(q:Q (.tup as) (vis Y)):wpAny X.M A (newTuple vs) (liftQ X Y s Q) E s:=by
 refine wpAny_newObj_type ?_ (by show vs.toArray.size<=sizeLine;rw[gB,<-r.length,Hc];exact zht hl);exact zq (.tup as) Y (.tup hl (qn _ (Heap.get?_push_size _ rfl) rfl 0 rfl) (r.mono (.push _))) (a.push _ s.toks) (Step.push Y s _ s.toks) q
theorem zs9{r:Bool}{Y:AHeap}{s:Shared}{Q:zl}{as:List AV}{vs:List Value}{n:Nat}(a:At X Y s)(rv:RepVs Y s.heap as vs)(hl:as.length<=1000000)(q:mkL r as Q (vis Y)){t:Nat}:liftQ X Y s Q (.ref s.heap.objs.size) { s with heap:=s.heap.push (zS vs n),toks:=t }:=by
 have h0:=a.none_of_size (fN _);cases r with
 | true=>exact⟨.ref s.heap.objs.size,_,.ref _,a.alloc (ao:=.list as) t λkv=>(zN vs n (Heap.get?_push_size _ rfl) (rv.mono kv) hl),Step.alloc a _ _ t,by rw[jF rfl];exact q _ (qw h0)⟩
 | false=>exact zq (.lst as) _ (.lst (AHeap.wA ..)) (a.alloc (ao:=.frz as) t λkv=>(zr vs (qn _ (Heap.get?_push_size _ rfl) rfl n rfl) (rv.mono kv) hl)) (Step.alloc a _ _ t) (by rw[zhr h0];exact q)
theorem zfn{r:Bool}{A:Around}{Y:AHeap}{s:Shared}{Q:zl}{E}{as:List AV}{vs:List Value}(a:At X Y s)(rv:RepVs Y s.heap as vs)(hl:as.length<=1000000)(q:mkL r as Q (vis Y)) :
  wpAny X.M A (newList vs) (liftQ X Y s Q) E s:=by
 refine wpAny_newObj_type ?_ (by show vs.toArray.size<=sizeLine;rw[gB,<-rv.length,Hc];exact zht hl);exact zs9 (n:=0) (t:=s.toks) a rv hl q
theorem znC{es:List Expr}{ms:List AE}{k:Nat}{pos:Pos}(h:SoundEs X env nm es ms):zi X env nm (.Tuple es k pos) (A.tup ms):=λd A l Y s Q Z L a F q=>
 Tuple_ (Ha (kW h L a F q) (λvs s1 hpz=>zj hpz λavs Y1 r a1 st q1=>j4 st (zeE a1 r (qZ q1).1 (qZ q1).2)) λ_ _ x=>x)
theorem znr{r:Bool}{es:List Expr}{ms:List AE}{pos:Pos}(h:SoundEs X env nm es ms):zi X env nm (.List es pos) (A.lst r ms):=λd A l Y s Q Z L a F q=>
 List_ (Ha (kW h L a F q) (λvs s1 hpz=>zj hpz λavs Y1 rv a1 st q1=>j4 st (zfn a1 rv (qZ q1).1 (qZ q1).2)) λ_ _ x=>x)
theorem kj{A:Around}{s:Shared}{Y:AHeap}{x:Str}{pos:Pos}{v:Value}{Q:Value->Shared->Prop}{E}(XO:X.Ok)(EO:EnvOk env)(a:At X Y s)(hx:env.kindOf x=some .globalImplicit)(hd:(x==("__debug__" : Str))=false)
  (hv:X.mg x=some v)(h:Q v s):wpAny X.M A (eval (.Name x pos) env) Q E s:=
 Calls.Name_function_global EO.kind hx (Calls.loadGlobal_global (by rw[EO.glob];exact XO.g.keeps a.keep) hv h) hd
theorem jR{A:Around}{s:Shared}{Y:AHeap}{x:Str}{pos:Pos}{v:Value}{Q:Value->Shared->Prop}{E}(XO:X.Ok)(EO:EnvOk env)(a:At X Y s)(hx:env.kindOf x=some .globalImplicit)(hd:(x==("__debug__" : Str))=false)
  (hn:X.mg x=none)(hv:X.mb x=some v)(h:Q v s):wpAny X.M A (eval (.Name x pos) env) Q E s:=
 Calls.Name_function_global EO.kind hx (Calls.loadGlobal_builtin (by rw[EO.glob];exact XO.g.keeps a.keep) hn (by rw[EO.bi];exact XO.b.keeps a.keep) hv h) hd
theorem CallOk.call{A:Around}{Y:AHeap}{s:Shared}{f:Addr}{d:Dp}{args:List AV}{Q:zl}{Z:XP}{vs:List Value}(h:CallOk X f d args Q Z (vis Y))(L:Live X d A)(a:At X Y s)(r:RepVs Y s.heap args vs) :
  wpAny X.M A (PySem.call (.ref f) vs []) (liftQ X Y s Q) (liftX X Y s Z) s:=by
 unfold CallOk at h;exact wpAny_call (Hh (h A s vs Y rfl L a r) λres s' x=>x)
theorem zkH{g:Str}{f:Addr}{o:Obj}{fd:FuncData}{es:List Expr}{ms:List AE}{gp pos:Pos}(XO:X.Ok)(EO:EnvOk env)(hx:env.kindOf g=some .globalImplicit)(hd:(g==("__debug__" : Str))=false)(hf:X.mg g=some (.ref f))(ho:X.h₀.get? f=some o)(hfd:o.data = .func fd)(h:SoundEs X env nm es ms) :
  zi X env nm (.Call (.Name g gp) es [] pos) (A.wE X f ms):=λd A l Y s Q Z L a F q=>by
 refine Call_ (kj XO EO a hx hd hf ?_);refine callWith_function_kw (o:=o) (fd:=fd) (qH h L a F q λvs s1 hpz=>zj hpz λavs Y1 r a1 st q1=>⟨⟨a1.keep _ _ ho,hfd⟩,?_⟩);exact j4 st (q1.call L a1 r)
end
noncomputable def AO.vB : AO->Option (List AV)
 | .list xs=>some xs
 | _=>Option.none
noncomputable def jf(Y:AHeap):AV->Option (List AV)
 | .lst xs=>some xs
 | .ref p=>(Y p).bind AO.vB
 | _=>Option.none
theorem zA{Y:AHeap}{p:Addr}{xs:List AV}(h:Y p=some (.list xs)):jf Y (.ref p)=some xs:=by
 show (Y p).bind AO.vB = _;rw[h];rfl
theorem ja{Y:AHeap}{x:AV}{xs:List AV}(h:jf (vis Y) x=some xs):IsL Y x xs:=by
 cases x with
 | lst ys=>cases h;exact .lst
 | ref p=>
  have h:(vis Y p).bind AO.vB = some xs:=h;refine zb (pT.mp h) λo h1 h2=>?_;cases o with
  | list ys=>cases h2;exact .ref h1
  | _=>cases h2
 | _=>cases h
noncomputable def small(n:Nat):Bool:=Nat.blt n 1152921504606846976
def zuf(r:Bool)(a b:AV)(Q:zl)(Y:AHeap):Prop:=zt (jf Y a) λxs=>zt (jf Y b) λys=>zdK (xs.length+ys.length) (mkL r (xs++ys) Q Y)
def zxF(r:Bool)(a b:AV)(Q:zl)(Y:AHeap):Prop:=match a with
 | .int i=>zt b.int? λj=>Q (.int (i+j)) Y
 | .tup xs=>zt b.tup? λys=>zdK (xs.length+ys.length) (Q (.tup (xs++ys)) Y)
 | x=>zuf r x b Q Y
noncomputable def zus(j:Int):Bool:=!(decide (j=0))&&Nat.blt j.natAbs 1073741824
noncomputable def zcw(j:Int):Bool:=!(decide (j=0))
noncomputable def zuM(i j:Int):Bool:=decide (0<=j)&&decide (j<=1000)&&Nat.blt i.natAbs 18446744073709551616
def kz(a b:AV)(K:Int->Int->Prop):Prop:=zt a.int? λi=>zt b.int? λj=>K i j
def zuh(r:Bool)(op:Operator)(a b:AV)(Q:zl)(Y:AHeap):Prop:=match op with
 | .Add=>zxF r a b Q Y
 | .Sub=>kz a b λi j=>Q (.int (i-j)) Y
 | .Mult=>kz a b λi j=>onB (small j.natAbs||small i.natAbs) (Q (.int (i*j)) Y)
 | .FloorDiv=>kz a b λi j=>onB (zus j) (Q (.int (i.fdiv j)) Y)
 | .Mod=>kz a b λi j=>onB (zcw j) (Q (.int (i.fmod j)) Y)
 | .Pow=>kz a b λi j=>onB (zuM i j) (Q (.int (i ^ j.toNat)) Y)
 | _=>False
section
variable{X:Cx}{A:Around}{Y:AHeap}{s:Shared}{Q:zl}{E:Value->Shared->Prop}{x y:AV}{u v:Value}
theorem za3{i:Int}(h:small i.natAbs=true):Builtin.Int.intBits i<=64:=by
 have h:i.natAbs<2 ^ 60:=by unfold small at h;have:=fDH.mp h;exact this
 unfold Builtin.Int.intBits;split
 .exact y6
 .rename_i h0
  have:i.natAbs.log2<60:=(Nat.log2_lt (by intro e;simp[Int.natAbs_eq_zero] at e;subst e;simp at h0)).mpr h;exact zyR this
theorem zji{xs ys:List AV}(a:At X Y s)(rx:RepV Y s.heap (.tup xs) u)(ry:RepV Y s.heap (.tup ys) v)(hq:xs.length+ys.length<=1000000)(q:Q (.tup (xs++ys)) (vis Y)):wpAny X.M A (binaryOp .Add u v) (liftQ X Y s Q) E s:=by
 refine zj (RepV.wH rx) λt vs e0_2 hla ht rs=>?_;subst e0_2;refine zj (RepV.wH ry) λt2 ws e1_2 hlb ht2 rs2=>?_;subst e1_2;refine jM (id ht) λh2_0 ho hc n hd=>?_;obtain⟨cls,dd,data,sl⟩:=h2_0;refine jM (id ht2) λh3_0 ho2 hc2 n2 hd2=>?_;obtain⟨cls2,dd2,data2,sl2⟩:=h3_0;subst hc hd hc2 hd2;have l1:=rs.length;have l2:=rs2.length;have e:vs.toArray++ws.toArray=(vs++ws).toArray:=by simp
 by_cases hv:vs=[]
 .subst hv;cases rs;exact concat_meets (zc _ ho rfl) (zc _ ho2 rfl) noFill_tuple_add seq_tuple_add PySem.F.slot_tuple_add PySem.F.entry_tuple_add (PySem.F.args_tuple_add_2 _ _)
   (tuple_addW0 t t2 _ ws.toArray n n2 dd dd2 sl sl2 rfl) (zo ho ho2 (zb3 a (.tup hlb ht2 rs2) q))
 .by_cases hw:ws=[]
  .subst hw;cases rs2;refine concat_meets (zc _ ho rfl) (zc _ ho2 rfl) noFill_tuple_add seq_tuple_add PySem.F.slot_tuple_add PySem.F.entry_tuple_add (PySem.F.args_tuple_add_2 _ _)
    (tuple_addW1 t t2 vs.toArray _ n n2 dd dd2 sl sl2 (by simpa using hv) rfl) (zo ho ho2 (zb3 a (.tup hla ht rs) ?_))
   rwa [gT] at q
  .refine concat_meets (zc _ ho rfl) (zc _ ho2 rfl) noFill_tuple_add seq_tuple_add PySem.F.slot_tuple_add PySem.F.entry_tuple_add (PySem.F.args_tuple_add_2 _ _)
    (tuple_addW2 t t2 vs.toArray ws.toArray n n2 dd dd2 sl sl2 (by simpa using hv) (by simpa using hw) (by rw[gB,gB,Hc];exact zw4 hq l1 l2)) (zo ho ho2 ?_)
   rw[e];exact zq _ Y (.tup (by rw[fF];exact hq) (qn _ (Heap.get?_push_size _ rfl) rfl 0 rfl) ((rs.append rs2).mono (.push _))) (a.push _ s.toks) (Step.push Y s _ s.toks) q
theorem qb{r:Bool}(a:At X Y s)(rx:RepV Y s.heap x u)(ry:RepV Y s.heap y v)(q:zuf r x y Q (vis Y)):wpAny X.M A (binaryOp .Add u v) (liftQ X Y s Q) E s:=by
 refine zb (zg q) λxs h1 q=>?_;refine zb (zg q) λys h2 q=>?_;obtain⟨hl,q⟩:=qZ q;refine zv (a.isList (ja h1) rx) λp vs e7_2 _ ht rs _=>?_;subst e7_2;refine zv (a.isList (ja h2) ry) λp2 ws e8_2 _ ht2 rs2 _=>?_;subst e8_2;refine jM (id ht) λh9_0 ho hc n hd=>?_;obtain⟨cls,dd,data,sl⟩:=h9_0;refine jM (id ht2) λh10_0 ho2 hc2 n2 hd2=>?_;obtain⟨cls2,dd2,data2,sl2⟩:=h10_0;subst hc hd hc2 hd2;have l1:=rs.length;have l2:=rs2.length;have e:vs.toArray++ws.toArray=(vs++ws).toArray:=by simp
 refine concat_meets (zc _ ho rfl) (zc _ ho2 rfl) noFill_list_add seq_list_add PySem.F.slot_list_add PySem.F.entry_list_add (PySem.F.args_list_add_2 _ _)
  (list_addW p p2 vs.toArray ws.toArray n n2 dd dd2 sl sl2 (by rw[gB,gB,Hc];exact zw4 hl l1 l2)) (zo ho ho2 ?_)
 rw[e];exact zs9 (n:=0) (t:=s.toks) a (rs.append rs2) (by rw[fF];exact hl) q
theorem zl6{r:Bool}{op:Operator}(a:At X Y s)(rx:RepV Y s.heap x u)(ry:RepV Y s.heap y v)(q:zuh r op x y Q (vis Y)):wpAny X.M A (binaryOp op u v) (liftQ X Y s Q) E s:=by
 have two:∀{K:Int->Int->Prop},kz x y K->∃i j t t',x = .int i/\y = .int j/\u = .int i t/\v = .int j t'/\K i j:=λq=>by
  refine zb (zg q) λi h1 q=>?_;refine zb (zg q) λj h2 q=>?_;have h1:=jp h1;have h2:=jp h2;subst h1;subst h2;obtain⟨_,rfl⟩:=RepV.wD rx;obtain⟨_,rfl⟩:=RepV.wD ry;exact jO i j _ _ rfl rfl rfl rfl q
 cases op with
 | Add=>
  cases x with
  | int i=>
   refine zb (zg q) λj h2 q=>?_;have h2:=jp h2;subst h2;obtain⟨_,rfl⟩:=RepV.wD rx;obtain⟨_,rfl⟩:=RepV.wD ry;exact P.add_int (kU a (.int _ _) q)
  | tup xs=>
   refine zb (zg q) λys h2 q=>?_;have h2:=zlT h2;subst h2;exact zji a rx ry (qZ q).1 (qZ q).2
  | str n=>exact qb (r:=r) a rx ry q
  | none=>exact qb (r:=r) a rx ry q
  | bool _=>exact qb (r:=r) a rx ry q
  | lst _=>exact qb (r:=r) a rx ry q
  | ref _=>exact qb (r:=r) a rx ry q
  | rng _ _=>exact qb (r:=r) a rx ry q
  | exc _=>exact qb (r:=r) a rx ry q
 | Sub=>refine zW (two q) λi j t t' e29_4 e29_5 e29_6 e29_7 q=>?_;subst e29_4;subst e29_5;subst e29_6;subst e29_7;exact P.sub_int (kU a (.int _ _) q)
 | Mult=>
  refine zW (two q) λi j t t' e34_4 e34_5 e34_6 e34_7 q=>?_;subst e34_4;subst e34_5;subst e34_6;subst e34_7;obtain⟨h,q⟩:=qG q
  rcases fBQ.mp h with h|h
  .exact P.mul_int (kU a (.int _ _) q) (IntMulOk.of_right (za3 h))
  .exact P.mul_int (kU a (.int _ _) q) (IntMulOk.of_left (za3 h))
 | FloorDiv=>
  refine zW (two q) λi j t t' e34_4 e34_5 e34_6 e34_7 q=>?_;subst e34_4;subst e34_5;subst e34_6;subst e34_7;obtain⟨h,q⟩:=qG q;have h:=gA.mp h;have h0:¬j=0:=by simpa using h.1
  exact floordiv_int h0 (kU a (.int _ _) q) (.inl (PyProof.noPylong_small (fDH.mp h.2)))
 | Mod=>
  refine zW (two q) λi j t t' e36_4 e36_5 e36_6 e36_7 q=>?_;subst e36_4;subst e36_5;subst e36_6;subst e36_7;obtain⟨h,q⟩:=qG q;have h0:¬j=0:=by simpa [zcw] using h
  exact mod_int' h0 (kU a (.int _ _) q)
 | Pow=>
  refine zW (two q) λi j t t' e38_4 e38_5 e38_6 e38_7 q=>?_;subst e38_4;subst e38_5;subst e38_6;subst e38_7;obtain⟨h,q⟩:=qG q;have h:=gA.mp h;have h1:=gA.mp h.1;exact pow_int_small (H1 h1.1) (by have:=H1 h1.2;lia) (fDH.mp h.2) (kU a (.int _ _) q)
 | _=>exact q.elim
end
mutual
inductive Rd(Y:AHeap):AV->PyData->Prop
 | none:Rd Y .none .none
 | bool (b:Bool):Rd Y (.bool b) (.bool b)
 | int (i:Int):Rd Y (.int i) (.int i)
 | str (n:Nat):Rd Y (.str n) (.str (zy n))
 | tup {xs ds}:RdL Y xs ds->Rd Y (.tup xs) (.tuple ds)
 | lst {xs ds}:RdL Y xs ds->Rd Y (.lst xs) (.list ds)
 | list {a xs ds}:Y a=some (.list xs)->RdL Y xs ds->Rd Y (.ref a) (.list ds)
inductive RdL(Y:AHeap):List AV->List PyData->Prop
 | nil:RdL Y [] []
 | cons {x xs d ds}:Rd Y x d->RdL Y xs ds->RdL Y (x::xs) (d::ds)
end
theorem Rd.wK{Y:AHeap}{d:PyData}(r:Rd Y .none d):d = .none:=by cases r;rfl
theorem Rd.wD{Y:AHeap}{i:Int}{d:PyData}(r:Rd Y (.int i) d):d = .int i:=by cases r;rfl
theorem Rd.wI{Y:AHeap}{n:Nat}{d:PyData}(r:Rd Y (.str n) d):d = .str (zy n):=by cases r;rfl
theorem Rd.wH{Y:AHeap}{xs:List AV}{d:PyData}(r:Rd Y (.tup xs) d):∃ds,d = .tuple ds/\RdL Y xs ds:=by cases r with|tup r=>exact zc _ rfl r
theorem Rd.wQ{Y:AHeap}{xs:List AV}{d:PyData}(r:Rd Y (.lst xs) d):∃ds,d = .list ds/\RdL Y xs ds:=by cases r with|lst r=>exact zc _ rfl r
theorem RdL.wG{Y:AHeap}{ds:List PyData}(r:RdL Y [] ds):ds=[]:=by cases r;rfl
theorem RdL.wF{Y:AHeap}{x:AV}{xs:List AV}{ds:List PyData}(r:RdL Y (x::xs) ds):∃e es,ds=e::es/\Rd Y x e/\RdL Y xs es:=by cases r with|cons a r=>exact zN _ _ rfl a r
theorem Rd.reads{X:Cx}{Y:AHeap}{s:Shared}(a:At X Y s){x:AV}{d:PyData}(h:Rd (vis Y) x d){v:Value}(r:RepV Y s.heap x v):(∃as,Reads s.heap v d as)/\d.canLay0=true:=by
 refine Rd.rec (motive_1:=λx d _=>∀v,RepV Y s.heap x v->(∃as,Reads s.heap v d as)/\d.canLay0=true) (motive_2:=λxs ds _=>∀vs,RepVs Y s.heap xs vs->(∃as,ReadsAll s.heap vs ds as)/\PyData.canLayAll0 ds=true)
  ?_ ?_ ?_ ?_ ?_ ?_ ?_ ?_ ?_ h v r
 .intro v r;obtain rfl:=RepV.wK r;exact⟨⟨_,.none⟩,by simp only[PyData.canLay0]⟩
 .intro b v r;obtain rfl:=RepV.wN r;exact⟨⟨_,.bool b⟩,by simp only[PyData.canLay0]⟩
 .intro i v r;obtain⟨_,rfl⟩:=RepV.wD r;exact⟨⟨_,.int i _⟩,by simp only[PyData.canLay0]⟩
 .intro n v r;refine zb (RepV.wI r) λt e1_1 hn=>?_;subst e1_1;exact⟨⟨_,.str _ t⟩,by simp only[PyData.canLay0];exact zi3 hn⟩
 .intro xs ds _ ih v r;refine zj (RepV.wH r) λ_ _ e2_2 hl ht rv=>?_;subst e2_2;refine jM ht λo ho hc n hd=>?_;obtain⟨⟨as,h⟩,h2⟩:=ih _ rv;exact⟨⟨as,.tuple ho hc hd (by simpa using h)⟩,by simp only[PyData.canLay0];exact h2⟩
 .intro xs ds _ ih v r;refine zv (a.isList .lst r) λp vs e5_2 _ h5_4 rv _=>?_;subst e5_2;refine jM h5_4 λo ho hc n hd=>?_;obtain⟨⟨as,h⟩,h2⟩:=ih _ rv;exact⟨⟨_,.list ho hc hd (by simpa using h)⟩,by simp only[PyData.canLay0];exact h2⟩
 .intro p xs ds hp _ ih v r;refine zv (a.isList (.ref hp) r) λp vs e7_2 _ h7_4 rv _=>?_;subst e7_2;refine jM h7_4 λo ho hc n hd=>?_;obtain⟨⟨as,h⟩,h2⟩:=ih _ rv;exact⟨⟨_,.list ho hc hd (by simpa using h)⟩,by simp only[PyData.canLay0];exact h2⟩
 .intro vs r;obtain rfl:=RepVs.wG r;exact⟨⟨_,.nil⟩,rfl⟩
 .intro x xs d ds _ _ h1 h2 vs r;refine zm (RepVs.wF r) λ_ _ e9_2 rv rvs=>?_;subst e9_2;obtain⟨⟨as,g1⟩,k1⟩:=h1 _ rv;obtain⟨⟨bs,g2⟩,k2⟩:=h2 _ rvs;exact⟨⟨_,.cons g1 g2⟩,by simp only[PyData.canLayAll0,k1,k2,Bool.and_self]⟩
def znN(A:Around)(s:Shared)(x y:Value)(t:Bool):Prop:=
 ∀(prog:Hj) (w:World) (E:Value->Shared->Prop) (Q:Value->Shared->Prop),Q (.bool t) s->wpAny (model prog w) A (richCompare .Lt x y) Q E s
noncomputable def LtZ(A:Around)(s:Shared)(f:Bool):List (Value×Value)->Bool->Prop
 | [],t=>t=f
 | p::r,t=>(EqAt A s p.1 p.2 true/\LtZ A s f r t)\/(EqAt A s p.1 p.2 false/\znN A s p.1 p.2 t)
theorem zft(l b:Value):Builtin.«tuple.__lt__» ⟨[l,b],[]⟩=(do
  if !(<-isInstance b (.type "tuple")) then return <-ret .notImplemented
  let xs <-Builtin.Tuple.tupleItemsOf l
  let ys <-Builtin.Tuple.tupleItemsOf b
  for (x,y) in xs.toList.zip ys.toList do
   if !(<-eqBool x y) then
    rule "tuple.compare.by-the-first-pair-that-differs";return <-ret (<-richCompare .Lt x y)
  ret (Builtin.Tuple.tupleCompareSizes .Lt xs.size ys.size)):=rfl
theorem zmS{A:Around}{s:Shared}{l b:Addr}{xs ys:List Value}{t:Bool}(hl:IsTup s.heap l xs.toArray)(hb:IsTup s.heap b ys.toArray)(hu:A.units<cLine)(h:LtZ A.in1 s (decide (xs.length<ys.length)) (xs.zip ys) t):znN A s (.ref l) (.ref b) t:=by
 intro prog w E Q q;refine wpAny_richCompare_same_or (op:=.Lt) hl.typeIs hb.typeIs F.slot_tuple_lt (Hf F.slot_tuple_lt hl.typeIs F.entry_tuple_lt ?_ (F.args_tuple_lt_2 _ _)) (.inr hu);rw[zft];refine G8 (wpAny_isInstance (T:="tuple") (b:=true) hb.typeIs AutoSeq1.sub_tuple_tuple ?_);refine G8 (tupleItemsOf_ hl (G8 (tupleItemsOf_ hb ?_)));refine G8 ?_;refine He _ (λrest b s'=>b=(none,())/\s'=s/\LtZ A.in1 s (decide (xs.length<ys.length)) rest t) _ ?_ ?_ _ _ (zo rfl rfl h)
 .intro p rest b s' hR;refine zZ hR λe0 e1 hL=>?_;subst e0 e1
  rcases hL with⟨he,hr⟩|⟨he,hr⟩
  .exact G8 (he prog w _ _ (G9 (zo rfl rfl hr)))
  .refine G8 (he prog w _ _ (G8 (Hd (G8 (hr prog w _ _ (G8 (G9 (G9 ?_))))))));exact G9 (zr _ rfl (λe=>nomatch e) q)
 .intro b s' hR;refine zZ hR λe0 e1 hL=>?_;subst e0 e1;have hL:t=decide (xs.length<ys.length):=hL;subst hL;exact G9 (zr _ rfl (λe=>nomatch e) q)
mutual
noncomputable def ltD:PyData->PyData->Option Bool
 | .int i,.int j=>some (decide (i<j))
 | .str x,.str y=>some (decide (x.cps.toList<y.cps.toList))
 | .tuple xs,.tuple ys=>zbV xs ys
 | _,_=>none
noncomputable def zbV:List PyData->List PyData->Option Bool
 | [],[]=>some false
 | [],_::_=>some true
 | _::_,[]=>some false
 | x::xs,y::ys=>if PyData.eqv x y then zbV xs ys else ltD x y
end
theorem zdm(a b:Int):ltD (.int a) (.int b)=some (decide (a<b)):=rfl
theorem zoW(x y:Str):ltD (.str x) (.str y)=some (decide (x.cps.toList<y.cps.toList)):=rfl
theorem zeo(xs ys:List PyData):ltD (.tuple xs) (.tuple ys)=zbV xs ys:=rfl
theorem zgT:zbV [] []=some false:=rfl
theorem zq7(y:PyData)(ys:List PyData):zbV [] (y::ys)=some true:=rfl
theorem zq6(x:PyData)(xs:List PyData):zbV (x::xs) []=some false:=rfl
theorem qY(x y:PyData)(xs ys:List PyData):zbV (x::xs) (y::ys)=if PyData.eqv x y then zbV xs ys else ltD x y:=rfl
theorem jG{h:Heap}{vs:List Value}{d:PyData}{ds:List PyData}{as:List Addr}(r:ReadsAll h vs (d::ds) as):∃v vs' a1 a2,vs=v::vs'/\Reads h v d a1/\ReadsAll h vs' ds a2:=
 (readsAll_cons_inv r).imp λ_ h=>h.imp λ_ h=>h.imp λ_ h=>h.imp λ_ h=>⟨h.1,h.2.2⟩
theorem jW{h:Heap}{vs:List Value}{as:List Addr}(r:ReadsAll h vs [] as):vs=[]:=(readsAll_nil_inv r).1
theorem zbt{h:Heap}{v:Value}{i:Int}{as:List Addr}(r:Reads h v (.int i) as):∃t,v = .int i t:=(reads_int_inv r).imp λ_ h=>h.1
theorem zbu{h:Heap}{v:Value}{x:Str}{as:List Addr}(r:Reads h v (.str x) as):∃t,v = .str x t:=(reads_str_inv r).imp λ_ h=>h.1
theorem zs4{M:PyData->PyData->Bool->Prop}(hi:∀i j:Int,M (.int i) (.int j) (decide (i<j)))(hs:∀x y:Str,M (.str x) (.str y) (decide (x.cps.toList<y.cps.toList)))(ht:∀xs ys t,zbV xs ys=some t->M (.tuple xs) (.tuple ys) t)
  {da db:PyData}{t:Bool}(e:ltD da db=some t):M da db t:=by
 cases da with
 | int i=>cases db with
  | int j=>exact Hy e▸hi i j
  | _=>exact nos e
 | str x=>cases db with
  | str y=>exact Hy e▸hs x y
  | _=>exact nos e
 | tuple xs=>cases db with
  | tuple ys=>exact ht xs ys t e
  | _=>exact nos e
 | _=>exact nos e
def LtR(s:Shared)(da:PyData):Prop:=∀{A:Around} (db:PyData) {a b:Value} {as bs:List Addr} {t:Bool},Reads s.heap a da as->Reads s.heap b db bs->da.canLay0=true->db.canLay0=true->A.units+2*da.depth+10<cLine->ltD da db=some t->znN A s a b t
theorem zmQ{s:Shared}{xs:List PyData}:(∀x∈xs,LtR s x)->∀{A:Around} {ys:List PyData} {vs ws:List Value} {as bs:List Addr} {f t:Bool},ReadsAll s.heap vs xs as->ReadsAll s.heap ws ys bs->PyData.canLayAll0 xs=true->PyData.canLayAll0 ys=true->A.units+2*PyData.depthAll xs+10<cLine->zbV xs ys=some t->f=decide (vs.length<ws.length)->LtZ A s f (vs.zip ws) t:=by
 induction xs with
 | nil=>
  intro _ A ys vs ws as bs f t rx ry ha hb hu e hf;rw[jW rx] at hf ⊢;cases ys with
  | nil=>rw[jW ry] at hf;exact(Hy e).symm.trans hf.symm
  | cons y ys=>refine q9 (jG ry) λ_ _ _ _ z1 _ _=>?_;rw[z1] at hf;exact(Hy e).symm.trans hf.symm
 | cons x xs ih=>
  intro H A ys vs ws as bs f t rx ry ha hb hu e hf;refine q9 (jG rx) λ_ _ _ _ z1 h1 h2=>?_;rw[z1] at hf ⊢;cases ys with
  | nil=>rw[jW ry] at hf ⊢;exact(Hy e).symm.trans hf.symm
  | cons y ys=>
   refine q9 (jG ry) λ_ _ _ _ z1 k1 k2=>?_;rw[z1] at hf ⊢;have ha:=(gX _ _).mp ha;have hb:=(gX _ _).mp hb;have hu:A.units+2*max x.depth (PyData.depthAll xs)+10<cLine:=hu;have heq:=eqAt_reads x y A s _ _ _ _ h1 k1 ha.1 hb.1 (zxd hu);rw[qY] at e;cases hE:PyData.eqv x y with
   | true=>rw[hE] at e heq;exact .inl ⟨heq,ih (λz hz=>H z (fB _ hz)) h2 k2 ha.2 hb.2 (zw2 hu) e (hf.trans (decide_eq_decide.mpr fCD))⟩
   | false=>rw[hE] at e heq;exact .inr ⟨heq,H x fA y h1 k1 ha.1 hb.1 (zw1 hu) e⟩
theorem zog{n:Nat}{xs:List PyData}(h:PyData.depthAll xs<=n):∀x∈xs,x.depth<=n:=by
 induction xs with
 | nil=>exact λ_ h=>nomatch h
 | cons y ys ih=>exact fM.mpr ⟨fE (Nat.le_max_left _ _) h,ih (fE (Nat.le_max_right _ _) h)⟩
theorem zsc{s:Shared}{n:Nat}(H:∀xs,(PyData.tuple xs).depth<=n->∀x∈xs,LtR s x)(da:PyData)(hn:da.depth<=n):LtR s da:=by
 intro A db a b as bs t ra rb ha hb hu e;refine zs4 (M:=λda db t=>da.depth<=n->Reads s.heap a da as->Reads s.heap b db bs->da.canLay0=true->db.canLay0=true->A.units+2*da.depth+10<cLine->znN A s a b t) ?_ ?_ ?_ e hn ra rb ha hb hu
 .intro i j _ ra rb _ _ _;refine z8 (zbt ra) λ_ z1=>z8 (zbt rb) λ_ z2=>?_;rw[z1,z2];exact λprog w E Q q=>P.lt_int q
 .intro i j _ ra rb _ _ _;refine z8 (zbu ra) λ_ z1=>z8 (zbu rb) λ_ z2=>?_;rw[z1,z2];exact λprog w E Q q=>P.lt_str q
 .intro xs ys t e hn ra rb ha hb hu;refine zm (reads_tuple_items ra) λ_ _ z1 h1 hr=>zm (reads_tuple_items rb) λ_ _ z2 h2 hr2=>?_;rw[z1,z2];exact zmS h1 h2 (zAH hu) (zmQ (H xs hn) hr hr2 ha hb (zAG hu) e rfl)
theorem zmR{s:Shared}(n:Nat):∀da:PyData,da.depth<=n->LtR s da:=by
 induction n with
 | zero=>exact zsc λxs h=>absurd h (fBK _)
 | succ n ih=>exact zsc λxs h=>λx hx=>ih x (zog (fAD h) x hx)
theorem zio{A:Around}{s:Shared}(da db:PyData){a b:Value}{as bs:List Addr}{t:Bool}(ra:Reads s.heap a da as)(rb:Reads s.heap b db bs)(ha:da.canLay0=true)(hb:db.canLay0=true)(hu:A.units+2*da.depth+10<cLine)(e:ltD da db=some t):znN A s a b t:=zmR _ da (fN _) db ra rb ha hb hu e
noncomputable def AV.isNone:AV->Bool
 | .none=>true
 | _=>false
@[irreducible] noncomputable def eqG(a b:AV)(Q:Bool->AHeap->Prop)(Y:AHeap):Prop:=∃x y,Rd Y a x/\Rd Y b y/\x.depth<=100/\Q (PyData.eqv x y) Y
@[irreducible] noncomputable def ltG(a b:AV)(Q:Bool->AHeap->Prop)(Y:AHeap):Prop:=∃x y t,Rd Y a x/\Rd Y b y/\x.depth<=100/\ltD x y=some t/\Q t Y
@[irreducible] noncomputable def inG(x c:AV)(Q:Bool->AHeap->Prop)(Y:AHeap):Prop:=∃ds d,(Rd Y c (.list ds)\/Rd Y c (.tuple ds))/\Rd Y x d/\PyData.depthAll ds<=100/\Q (ds.any λy=>PyData.eqv y d) Y
@[irreducible] noncomputable def inR(x:AV)(p:Addr)(Q:Bool->AHeap->Prop)(Y:AHeap):Prop:=(∃kvs k,Y p=some (.tdict kvs)/\x=zC k/\Q (Tab.at kvs k).isSome Y)\/(∃fs n,Y p=some (.idict fs)/\x = .str n/\Q (kO fs n).isSome Y)\/inG x (.ref p) Q Y
def eqF(a b:AV)(Q:Bool->AHeap->Prop)(Y:AHeap):Prop:=match a with
 | .int i=>(match b with
  | .int j=>Q (decide (i=j)) Y
  | _=>eqG a b Q Y)
 | .str n=>(match b with
  | .str m=>Q (Nat.beq n m) Y
  | _=>eqG a b Q Y)
 | _=>eqG a b Q Y
def inF(x c:AV)(Q:Bool->AHeap->Prop)(Y:AHeap):Prop:=match c with
 | .ref p=>inR x p Q Y
 | _=>inG x c Q Y
def ltF(a b:AV)(Q:Bool->AHeap->Prop)(Y:AHeap):Prop:=match a with
 | .int i=>zt b.int? λj=>Q (decide (i<j)) Y
 | _=>ltG a b Q Y
def zur(op:CmpOp)(a b:AV)(Q:Bool->AHeap->Prop)(Y:AHeap):Prop:=match op with
 | .Eq=>eqF a b Q Y
 | .NotEq=>eqF a b (λt Y'=>Q (!t) Y') Y
 | .Lt=>ltF a b Q Y
 | .LtE=>kz a b λi j=>Q (decide (i<=j)) Y
 | .Gt=>kz a b λi j=>Q (decide (i>j)) Y
 | .GtE=>kz a b λi j=>Q (decide (i>=j)) Y
 | .In=>inF a b Q Y
 | .NotIn=>inF a b (λt Y'=>Q (!t) Y') Y
 | .Is=>onB b.isNone (Q a.isNone Y)
 | .IsNot=>onB b.isNone (Q (!a.isNone) Y)
section
variable{X:Cx}{A:Around}{Y:AHeap}{s:Shared}{E:Value->Shared->Prop}{d:Dp}{x y:AV}{u v:Value}
theorem zdj{R:Bool->Shared->Prop}(rx:RepV Y s.heap x u)(h:R x.isNone s):wpAny X.M A (isSame u .none) R E s:=by
 cases rx<;>exact G9 h
theorem ze1{R:Bool->AHeap->Prop}{t:Bool}(a:At X Y s)(q:R t (vis Y)):liftB X Y s R t s:=(zr Y a (.refl ..) q)
def zf7(X:Cx)(Y:AHeap)(s:Shared)(R:Bool->AHeap->Prop):Value->Shared->Prop:=λw s'=>∃t,w = .bool t/\liftB X Y s R t s'
theorem zfH{R:Bool->AHeap->Prop}(L:Live X d A)(a:At X Y s)(rx:RepV Y s.heap x u)(ry:RepV Y s.heap y v)(q:inG x y R (vis Y)):wpAny X.M A (compareOp .In u v) (zf7 X Y s R) E s:=by
 have room:=L.room;unfold inG at q;obtain⟨ds,dd,hc,hx,hd1,q⟩:=q;obtain⟨⟨as,r1⟩,kd⟩:=hx.reads a rx;have hu:A.units+1+min (PyData.depthAll ds) dd.depth<cLine:=by
  have:min (PyData.depthAll ds) dd.depth<=PyData.depthAll ds:=fDB _ _;exact zCd room hd1
 rcases hc with hc|hc
 .obtain⟨⟨bs,r2⟩,kc⟩:=hc.reads a ry;exact in_list_reads r2 r1 (by simpa only[PyData.canLay0] using kc) kd hu (zc _ rfl (ze1 a q))
 .obtain⟨⟨bs,r2⟩,kc⟩:=hc.reads a ry;exact in_tuple_reads r2 r1 (by simpa only[PyData.canLay0] using kc) kd hu (zc _ rfl (ze1 a q))
theorem zi7{R:Bool->AHeap->Prop}{w:Value}{s':Shared}(h:liftQ X Y s (λv Y'=>∃t,v = .bool t/\R t Y') w s'):zf7 X Y s R w s':=by
 refine zjE h λav Y' r a' st t e3_6 q=>?_;subst e3_6;obtain rfl:=RepV.wN r;exact zh4 t rfl Y' a' st q
theorem zh6{R:Bool->AHeap->Prop}(L:Live X d A)(a:At X Y s)(rx:RepV Y s.heap x u)(ry:RepV Y s.heap y v)(q:inF x y R (vis Y)):wpAny X.M A (compareOp .In u v) (zf7 X Y s R) E s:=by
 cases y with
 | ref p=>
  have qr:inR x p R (vis Y):=q;clear q;unfold inR at qr
  rcases qr with⟨kvs,k,hp,rfl,q⟩|⟨fs,n,hp,rfl,q⟩|q
  .obtain rfl:=RepV.wM ry;exact Ha (ztw (Q:=λv Y'=>∃t,v = .bool t/\R t Y') L a (zG hp).1 rx (zc _ rfl q)) (λw s' h=>zi7 h) λ_ _ e=>e
  .obtain rfl:=RepV.wM ry;exact Ha (zuZ (Q:=λv Y'=>∃t,v = .bool t/\R t Y') a (zG hp).1 rx (zc _ rfl q)) (λw s' h=>zi7 h) λ_ _ e=>e
  .exact zfH L a rx ry q
 | _=>exact zfH L a rx ry q
theorem zhU{R:Bool->AHeap->Prop}(L:Live X d A)(a:At X Y s)(rx:RepV Y s.heap x u)(ry:RepV Y s.heap y v)(q:eqF x y R (vis Y)) :
  wpAny X.M A (compareOp .Eq u v) (λw s'=>∃t,w = .bool t/\liftB X Y s R t s') E s/\wpAny X.M A (compareOp .NotEq u v) (λw s'=>∃t,w = .bool (!t)/\liftB X Y s R t s') E s:=by
 have room:=L.room;have gen:eqG x y R (vis Y)->wpAny X.M A (compareOp .Eq u v) (λw s'=>∃t,w = .bool t/\liftB X Y s R t s') E s/\wpAny X.M A (compareOp .NotEq u v) (λw s'=>∃t,w = .bool (!t)/\liftB X Y s R t s') E s:=by
  intro q;unfold eqG at q;refine zj q λda db h1 h2 k1 q=>?_;obtain⟨⟨as,r1⟩,c1⟩:=h1.reads a rx;obtain⟨⟨bs,r2⟩,c2⟩:=h2.reads a ry;have hm:min da.depth db.depth<=da.depth:=fDB _ _;exact⟨compareEq_reads r1 r2 c1 c2 (zw3 room k1) (zc _ rfl (ze1 a q)),compareNe_reads r1 r2 c1 c2 (zw3 room k1) (zc _ rfl (ze1 a q))⟩
 cases x with
 | int i=>
  cases y with
  | int j=>
   refine gen ?_;unfold eqG;refine zq _ _ (.int i) (.int j) (by simp only[PyData.depth];exact y5) ?_;have e:PyData.eqv (.int i) (.int j)=decide (i=j):=by
    simp only[PyData.eqv]
    by_cases h:i=j
    .rw[H0 h,beq_iff_eq.mpr h]
    .rw[Hz h,beq_eq_false_iff_ne.mpr h]
   exact q
  | _=>exact gen q
 | str n=>
  cases y with
  | str m=>
   refine gen ?_;unfold eqG;refine zq _ _ (.str n) (.str m) (by simp only[PyData.depth];exact y5) ?_;cases rx with
   | str hn t=>
    refine zb (RepV.wI ry) λt' e7_1 hm=>?_;subst e7_1;have e:PyData.eqv (.str (zy n)) (.str (zy m))=Nat.beq n m:=by
     rw[ztd];simp only[PyData.eqv]
     by_cases h:n=m
     .subst h;rw[H0 rfl,beq_iff_eq.mpr rfl]
     .rw[Hz h,beq_eq_false_iff_ne.mpr λe=>h (ki hn hm e)]
    rw[e];exact q
  | _=>exact gen q
 | _=>exact gen q
theorem zbo{op:CmpOp}{R:Bool->AHeap->Prop}(L:Live X d A)(a:At X Y s)(rx:RepV Y s.heap x u)(ry:RepV Y s.heap y v)(q:zur op x y R (vis Y)):wpAny X.M A (compareOp op u v) (zf7 X Y s R) E s:=by
 have room:=L.room;have two:∀{K:Int->Int->Prop},kz x y K->∃i j t t',x = .int i/\y = .int j/\u = .int i t/\v = .int j t'/\K i j:=λq=>by
  refine zb (zg q) λi h1 q=>?_;refine zb (zg q) λj h2 q=>?_;have h1:=jp h1;have h2:=jp h2;subst h1;subst h2;obtain⟨_,rfl⟩:=RepV.wD rx;obtain⟨_,rfl⟩:=RepV.wD ry;exact jO i j _ _ rfl rfl rfl rfl q
 have neg:∀{w:Value} {s':Shared},(∃t,w = .bool (!t)/\liftB X Y s (λt Y'=>R (!t) Y') t s')->zf7 X Y s R w s':=λ{w s'} h=>by
  refine kY h λt e Y' a' st q=>?_;exact zh4 (!t) e Y' a' st q
 cases op with
 | Eq=>exact(zhU L a rx ry q).1
 | NotEq=>
  have q:eqF x y (λt Y'=>R (!t) Y') (vis Y):=q;exact Ha (zhU L a rx ry q).2 (λw s' h=>neg h) λ_ _ e=>e
 | Lt=>
  have gen:ltG x y R (vis Y)->wpAny X.M A (compareOp .Lt u v) (zf7 X Y s R) E s:=by
   intro q;unfold ltG at q;refine qc q λda db t h1 h2 k1 ht q=>?_;obtain⟨⟨as,r1⟩,c1⟩:=h1.reads a rx;obtain⟨⟨bs,r2⟩,c2⟩:=h2.reads a ry;exact zio da db r1 r2 c1 c2 (zAV room k1) ht _ _ _ _ (zc _ rfl (ze1 a q))
  cases x with
  | int i=>
   refine zb (zg q) λj h2 q=>?_;have h2:=jp h2;subst h2;obtain⟨_,rfl⟩:=RepV.wD rx;obtain⟨_,rfl⟩:=RepV.wD ry;exact P.lt_int (zc _ rfl (ze1 a q))
  | _=>exact gen q
 | LtE=>refine zW (two q) λi j t t' e19_4 e19_5 e19_6 e19_7 q=>?_;subst e19_4;subst e19_5;subst e19_6;subst e19_7;exact P.le_int ⟨_,rfl,ze1 a q⟩
 | Gt=>refine zW (two q) λi j t t' e20_4 e20_5 e20_6 e20_7 q=>?_;subst e20_4;subst e20_5;subst e20_6;subst e20_7;exact P.gt_int ⟨_,rfl,ze1 a q⟩
 | GtE=>refine zW (two q) λi j t t' e21_4 e21_5 e21_6 e21_7 q=>?_;subst e21_4;subst e21_5;subst e21_6;subst e21_7;exact P.ge_int ⟨_,rfl,ze1 a q⟩
 | In=>exact zh6 L a rx ry q
 | NotIn=>
  have q:inF x y (λt Y'=>R (!t) Y') (vis Y):=q;refine zm1 (zh6 L a rx ry q) λt s' h=>?_;refine kY h λt' e Y' a' st q=>?_;cases e;exact⟨_,rfl,Y',a',st,q⟩
 | Is=>
  obtain⟨h,q⟩:=qG q;cases y with
  | none=>obtain rfl:=RepV.wK ry;exact G8 (zdj rx (G9 (zc _ rfl (ze1 a q))))
  | _=>cases h
 | IsNot=>
  obtain⟨h,q⟩:=qG q;cases y with
  | none=>obtain rfl:=RepV.wK ry;exact G8 (zdj rx (G9 (zc _ rfl (ze1 a q))))
  | _=>cases h
end
namespace A
def zuz(r:Bool)(op:Operator)(Q:zl)(a:AV):zl:=λb Y2=>zuh r op a b Q Y2
def zx3(r:Bool)(op:Operator)(y:AE)(d:Dp)(l:Loc)(Q:zl)(Z:XP):zl:=λa Y1=>y d l (zuz r op Q a) Z Y1
def kOr(y:AE)(d:Dp)(l:Loc)(Q:zl)(Z:XP):zl:=λa Y1=>zt a.bool? λb=>cB b (Q (.bool true) Y1) (y d l Q Z Y1)
def zx2(y:AE)(d:Dp)(l:Loc)(Q:zl)(Z:XP):zl:=λa Y1=>zt a.bool? λb=>cB b (y d l Q Z Y1) (Q (.bool false) Y1)
def zyc(Q:zl):zl:=λa Y1=>zt a.bool? λb=>Q (.bool (!b)) Y1
def zyb(Q:zl):zl:=λa Y1=>zt a.int? λi=>Q (.int (-i)) Y1
def bin(r:Bool)(op:Operator)(x y:AE):AE:=λd l Q Z Y=>x d l (zx3 r op y d l Q Z) Z Y
def neg(x:AE):AE:=λd l Q Z Y=>x d l (zyb Q) Z Y
def wT(x:AE):AE:=λd l Q Z Y=>x d l (zyc Q) Z Y
def vQ(x y:AE):AE:=λd l Q Z Y=>x d l (zx2 y d l Q Z) Z Y
def or_(x y:AE):AE:=λd l Q Z Y=>x d l (kOr y d l Q Z) Z Y
def zx4(b:AV)(F:AV->AHeap->Prop)(e:Bool)(Q:zl)(t:Bool)(Y2:AHeap):Prop:=match e with
 | true=>Q (.bool t) Y2
 | false=>cB t (F b Y2) (Q (.bool false) Y2)
def zsS(o:CmpOp)(a:AV)(F:AV->AHeap->Prop)(e:Bool)(Q:zl):zl:=λb Y1=>zur o a b (zx4 b F e Q) Y1
def vA(d:Dp)(l:Loc)(Q:zl)(Z:XP)(a:AV)(ops:List (CmpOp×AE))(Y:AHeap):Prop:=match ops with
 | []=>False
 | o::r=>o.2 d l (zsS o.1 a (λb Y2=>vA d l Q Z b r Y2) r.isEmpty Q) Z Y
def zuB(ops:List (CmpOp×AE))(d:Dp)(l:Loc)(Q:zl)(Z:XP):zl:=λa Y1=>vA d l Q Z a ops Y1
def cmp(x:AE)(ops:List (CmpOp×AE)):AE:=λd l Q Z Y=>x d l (zuB ops d l Q Z) Z Y
end A
section
variable{X:Cx}{env:Env}{nm:List (Str×Nat)}
theorem zng{r:Bool}{op:Operator}{e1 e2:Expr}{m1 m2:AE}{pos:Pos}(h1:zi X env nm e1 m1)(h2:zi X env nm e2 m2):zi X env nm (.BinOp e1 op e2 pos) (A.bin r op m1 m2):=λd A l Y s Q Z L a F q=>
 wpAny_BinOp (zam (h1 d A l Y s _ Z L a F q) λav v Y1 s1 rv a1 st1 q1=>
  Ha (h2 d A l Y1 s1 _ Z L a1 (F.step a st1) q1) (λv2 s2 hpz=>zj hpz λav2 Y2 rv2 a2 st2 q2=>j4 (st1.trans st2) (zl6 a2 (rv.mono (st2.keepV0 a1)) rv2 q2)) λ_ _ x=>x.back st1)
theorem znu{e:Expr}{m:AE}{pos:Pos}(h:zi X env nm e m):zi X env nm (.UnaryOp .USub e pos) (A.neg m):=λd A l Y s Q Z L a F q=>by
 refine G8 (zam (h d A l Y s _ Z L a F q) λav v Y1 s1 rv a1 st1 hpx=>?_);refine zb (zg hpx) λi hi q1=>?_;have hi:=jp hi;subst hi;obtain⟨_,rfl⟩:=RepV.wD rv;exact G8 (Hi (Hb (P.neg_int (liftQ.back st1 (kU a1 (.int _ _) q1)))))
theorem znw{e:Expr}{m:AE}{pos:Pos}(h:zi X env nm e m):zi X env nm (.UnaryOp .Not e pos) (A.wT m):=λd A l Y s Q Z L a F q=>by
 refine G8 (zam (h d A l Y s _ Z L a F q) λav v Y1 s1 rv a1 st1 hpx=>?_);refine zb (zg hpx) λb hb q1=>?_;have hb:=za4 hb;subst hb;obtain rfl:=RepV.wN rv;refine G8 (Hi (Hb ?_));exact Hb (G8 (wpAny_truthy_bool (G9 (liftQ.back st1 (zb3 a1 (.bool _) q1)))))
theorem zkD{e:Expr}{m:AE}{pos:Pos}(h:qS X env nm e m):qS X env nm (.UnaryOp .Not e pos) (A.wT m):=λd A l Y s Q Z L a F q=>by
 exact G8 (Ha (h d A l Y s (λb Y1=>Q (!b) Y1) Z L a F q) (λb s1 hpz=>zh hpz λY1 a1 st1 q1=>G9 (zr Y1 a1 st1 q1)) λ_ _ x=>x)
def za2(ms:List AE):AE:=match ms with
 | []=>λ_ _ _ _ _=>False
 | x::r=>match r with
  | []=>x
  | _::_=>A.vQ x (za2 r)
def orL(ms:List AE):AE:=match ms with
 | []=>λ_ _ _ _ _=>False
 | x::r=>match r with
  | []=>x
  | _::_=>A.or_ x (orL r)
inductive SoundEBs(X:Cx)(env:Env)(nm:List (Str×Nat)):List Expr->List AE->Prop
 | nil:SoundEBs X env nm [] []
 | cons {e es m ms}:zi X env nm e m->qS X env nm e m->SoundEBs X env nm es ms->SoundEBs X env nm (e::es) (m::ms)
theorem znf{pos:Pos}{es:List Expr}{ms:List AE}(h:SoundEBs X env nm es ms):zi X env nm (.BoolOp .And es pos) (za2 ms):=by
 induction h with
 | nil=>intro d A l Y s Q Z L a F q;exact q.elim
 | @cons e es m ms h hb r ih=>
  intro d A l Y s Q Z L a F q;show wpAny X.M A (boolOp pos .And (evalEach (e::es) env)) _ _ s;cases r with
  | nil=>exact h d A l Y s Q Z L a F q
  | @cons e2 es m2 ms h2 hb2 r=>
   refine G8 (zam (h d A l Y s _ Z L a F q) λav v Y1 s1 rv a1 st1 hpx=>?_);refine zb (zg hpx) λb hb' q1=>?_;have hb':=za4 hb';subst hb';obtain rfl:=RepV.wN rv;refine G8 (Hi (G8 (Hb (wpAny_truthy_bool ?_))));cases b with
   | false=>exact G9 (liftQ.back st1 (zb3 a1 (.bool _) q1))
   | true=>exact j4 st1 (ih d A l Y1 s1 Q Z L a1 (F.step a st1) q1)
theorem zpT{pos:Pos}{es:List Expr}{ms:List AE}(h:SoundEBs X env nm es ms):zi X env nm (.BoolOp .Or es pos) (orL ms):=by
 induction h with
 | nil=>intro d A l Y s Q Z L a F q;exact q.elim
 | @cons e es m ms h hb r ih=>
  intro d A l Y s Q Z L a F q;show wpAny X.M A (boolOp pos .Or (evalEach (e::es) env)) _ _ s;cases r with
  | nil=>exact h d A l Y s Q Z L a F q
  | @cons e2 es m2 ms h2 hb2 r=>
   refine G8 (zam (h d A l Y s _ Z L a F q) λav v Y1 s1 rv a1 st1 hpx=>?_);refine zb (zg hpx) λb hb' q1=>?_;have hb':=za4 hb';subst hb';obtain rfl:=RepV.wN rv;refine G8 (Hi (G8 (Hb (wpAny_truthy_bool ?_))));cases b with
   | true=>exact G9 (liftQ.back st1 (zb3 a1 (.bool _) q1))
   | false=>exact j4 st1 (ih d A l Y1 s1 Q Z L a1 (F.step a st1) q1)
theorem zkB{pos:Pos}{es:List Expr}{ms:List AE}(h:SoundEBs X env nm es ms):qS X env nm (.BoolOp .And es pos) (za2 ms):=by
 induction h with
 | nil=>intro d A l Y s Q Z L a F q;exact q.elim
 | @cons e es m ms h hb r ih=>
  intro d A l Y s Q Z L a F q;show wpAny X.M A (allTrue .And (e::es) env) _ _ s;cases r with
  | nil=>
   refine G8 (Ha (hb d A l Y s Q Z L a F q) (λb s1 x=>?_) λ_ _ x=>x);cases b with
   | false=>exact G9 x
   | true=>exact G9 x
  | @cons e2 es m2 ms h2 hb2 r=>
   refine G8 (Ha (hb d A l Y s (λb Y1=>cB b (za2 (m2::ms) d l (isB Q) Z Y1) (Q false Y1)) Z L a F q) (λb s1 x=>?_) λ_ _ x=>x);refine zh x λY1 a1 st1 q1=>?_;cases b with
   | false=>exact G9 (zr Y1 a1 st1 q1)
   | true=>exact zfx st1 (ih d A l Y1 s1 Q Z L a1 (F.step a st1) q1)
theorem znd{pos:Pos}{es:List Expr}{ms:List AE}(h:SoundEBs X env nm es ms):qS X env nm (.BoolOp .Or es pos) (orL ms):=by
 induction h with
 | nil=>intro d A l Y s Q Z L a F q;exact q.elim
 | @cons e es m ms h hb r ih=>
  intro d A l Y s Q Z L a F q;show wpAny X.M A (allTrue .Or (e::es) env) _ _ s;cases r with
  | nil=>
   refine G8 (Ha (hb d A l Y s Q Z L a F q) (λb s1 x=>?_) λ_ _ x=>x);cases b with
   | false=>exact G9 x
   | true=>exact G9 x
  | @cons e2 es m2 ms h2 hb2 r=>
   refine G8 (Ha (hb d A l Y s (λb Y1=>cB b (Q true Y1) (orL (m2::ms) d l (isB Q) Z Y1)) Z L a F q) (λb s1 x=>?_) λ_ _ x=>x);refine zh x λY1 a1 st1 q1=>?_;cases b with
   | true=>exact G9 (zr Y1 a1 st1 q1)
   | false=>exact zfx st1 (ih d A l Y1 s1 Q Z L a1 (F.step a st1) q1)
inductive SoundOps(X:Cx)(env:Env)(nm:List (Str×Nat)):List CmpOp->List Expr->List (CmpOp×AE)->Prop
 | one {op e m}:zi X env nm e m->behindInMarks op e=false->SoundOps X env nm [op] [e] [(op,m)]
 | cons {op e m op2 ops es m2 ms}:zi X env nm e m->SoundOps X env nm (op2::ops) es (m2::ms)->SoundOps X env nm (op::op2::ops) (e::es) ((op,m)::m2::ms)
theorem wp_release{M:Model}{A:Around}{vs keep:List Value}{Q:Unit->Shared->Prop}{E:Value->Shared->Prop}{s:Shared}(h:Q () s):wpAny M A (release vs keep) Q E s:=λΓ p hΓ=>by rw[Sem.wp_release];exact h
theorem zhL{pos:Pos}{ops es ms}(h0:SoundOps X env nm ops es ms):∀{d A l Y s Q Z av v},Live X d A->At X Y s->FR X env nm l Y s.heap->RepV Y s.heap av v->Mine.Internal.A.vA d l Q Z av ms (vis Y)->
  wpAny X.M A (compareChain pos v ops (markedEach ops es (evalEach es env))) (liftQ X Y s Q) (liftX X Y s Z) s:=by
 induction h0 with
 | @one op e m h hm=>
  intro d A l Y s Q Z av v L a F rv q;show wpAny X.M A (do let rv <-holding [v] (markedBehindIn op e (eval e env));standAt pos;operate [v,rv] (compareOp op v rv)) _ _ s;rw[markedBehindIn_of_false hm];refine G8 (Hb (zam (h d A l Y s _ Z L a F q) λav2 v2 Y1 s1 rv2 a1 st1 q1=>?_));refine G8 (Hi ?_);refine j4 st1 ?_;refine G8 (Hb (Ha (zbo L a1 (rv.mono (st1.keepV0 a)) rv2 q1) (λr s2 x=>?_) λ_ _ x=>x));refine kY x λt e7_1 Y2 a2 st2 q2=>?_;subst e7_1;exact G8 (wp_release (G9 (zq _ Y2 (.bool t) a2 st2 q2)))
 | @cons op e m op2 ops es m2 ms h hr ih=>
  intro d A l Y s Q Z av v L a F rv q;refine G8 (Hb (zam (h d A l Y s _ Z L a F q) λav2 v2 Y1 s1 rv2 a1 st1 q1=>?_));refine G8 (Hi ?_);refine j4 st1 ?_;refine G8 (Hb (Ha (zbo L a1 (rv.mono (st1.keepV0 a)) rv2 q1) (λc s2 x=>?_) λ_ _ x=>x));refine kY x λt e8_1 Y2 a2 st2 q2=>?_;subst e8_1;refine G8 (wp_release ?_);refine G8 (Hb (wpAny_truthy_bool ?_));cases t with
  | false=>exact G9 (liftQ.back st2 (zb3 a2 (.bool _) q2))
  | true=>exact j4 st2 (ih L a2 ((F.step a st1).step a1 st2) (rv2.mono (st2.keepV0 a1)) q2)
theorem znh{pos:Pos}{e:Expr}{m:AE}{ops es ms}(h:zi X env nm e m)(hr:SoundOps X env nm ops es ms):zi X env nm (.Compare e ops es pos) (A.cmp m ms):=λd A l Y s Q Z L a F q=>by
 refine G8 (zam (h d A l Y s _ Z L a F q) λav v Y1 s1 rv a1 st1 q1=>?_);exact j4 st1 (zhL hr L a1 (F.step a st1) rv q1)
theorem zdL{pos:Pos}{ops es ms}(h0:SoundOps X env nm ops es ms):∀{d A l Y s Q Z av v},Live X d A->At X Y s->FR X env nm l Y s.heap->RepV Y s.heap av v->Mine.Internal.A.vA d l (isB Q) Z av ms (vis Y)->
  wpAny X.M A (testChain pos v ops (markedEach ops es (evalEach es env))) (liftB X Y s Q) (liftX X Y s Z) s:=by
 induction h0 with
 | @one op e m h hm=>
  intro d A l Y s Q Z av v L a F rv q;show wpAny X.M A (do let rv <-holding [v] (markedBehindIn op e (eval e env));standAt pos;let c <-operate [v,rv] (compareOp op v rv);holding [c] (truthy c)) _ _ s;rw[markedBehindIn_of_false hm];refine G8 (Hb (zam (h d A l Y s _ Z L a F q) λav2 v2 Y1 s1 rv2 a1 st1 q1=>?_));refine G8 (Hi ?_);refine zfx st1 ?_;refine G8 (G8 (Hb (Ha (zbo L a1 (rv.mono (st1.keepV0 a)) rv2 q1) (λr s2 hpx=>?_) λ_ _ x=>x)));refine kY hpx λt e9_1 Y2 a2 st2 q2=>?_;subst e9_1;exact G8 (wp_release (G9 (Hb (wpAny_truthy_bool (zr Y2 a2 st2 q2)))))
 | @cons op e m op2 ops es m2 ms h hr ih=>
  intro d A l Y s Q Z av v L a F rv q;refine G8 (Hb (zam (h d A l Y s _ Z L a F q) λav2 v2 Y1 s1 rv2 a1 st1 q1=>?_));refine G8 (Hi ?_);refine zfx st1 ?_;refine G8 (Hb (Ha (zbo L a1 (rv.mono (st1.keepV0 a)) rv2 q1) (λc s2 hpx=>?_) λ_ _ x=>x));refine kY hpx λt e10_1 Y2 a2 st2 q2=>?_;subst e10_1;refine G8 (wp_release ?_);refine G8 (Hb (wpAny_truthy_bool ?_));cases t with
  | false=>exact G9 (zr Y2 a2 st2 q2)
  | true=>exact zfx st2 (ih L a2 ((F.step a st1).step a1 st2) (rv2.mono (st2.keepV0 a1)) q2)
theorem zkC{pos:Pos}{e:Expr}{m:AE}{ops es ms}(h:zi X env nm e m)(hr:SoundOps X env nm ops es ms):qS X env nm (.Compare e ops es pos) (A.cmp m ms):=λd A l Y s Q Z L a F q=>by
 refine G8 (zam (h d A l Y s _ Z L a F q) λav v Y1 s1 rv a1 st1 q1=>?_);exact zfx st1 (zdL hr L a1 (F.step a st1) rv q1)
end
noncomputable def jK{α:Type}(xs:List α)(k:Int):Option α:=if 0<=k then xs[k.toNat]? else if -(xs.length:Int)<=k then xs[(k+xs.length).toNat]? else none
@[irreducible] noncomputable def zcX(p:Addr)(b:AV)(Q:zl)(Y:AHeap):Prop:=(∃xs k v,Y p=some (.list xs)/\b = .int k/\jK xs k=some v/\Q v Y)\/(∃kvs k v,Y p=some (.tdict kvs)/\b=zC k/\Tab.at kvs k=some v/\Q v Y)\/(∃fs n v,Y p=some (.idict fs)/\b = .str n/\kO fs n=some v/\Q v Y)
def zqL(a b:AV)(Q:zl)(Y:AHeap):Prop:=match a with
 | .tup xs=>zt b.int? λk=>zt (jK xs k) λv=>Q v Y
 | .lst xs=>zt b.int? λk=>zt (jK xs k) λv=>Q v Y
 | .ref p=>zcX p b Q Y
 | _=>False
theorem jv{p:Addr}{xs:List AV}{k:Int}{Q:zl}{Y:AHeap}(hp:Y p=some (.list xs))(h:zt (jK xs k) λv=>Q v Y):zcX p (.int k) Q Y:=by
 refine zb (zg h) λv e q=>?_;unfold zcX;exact .inl (jV xs k v hp rfl e q)
theorem zba{p:Addr}{kvs:Tab}{k:List zd}{v:AV}{Q:zl}{Y:AHeap}(hp:Y p=some (.tdict kvs))(e:Tab.at kvs k=some v)(q:Q v Y):zcX p (zC k) Q Y:=by
 unfold zcX;exact .inr (.inl (jV kvs k v hp rfl e q))
theorem z0{p:Addr}{fs:List (Nat×AV)}{n:Nat}{Q:zl}{Y:AHeap}(hp:Y p=some (.idict fs))(h:zt (kO fs n) λv=>Q v Y):zcX p (.str n) Q Y:=by
 refine zb (zg h) λv e q=>?_;unfold zcX;exact .inr (.inr (jV fs n v hp rfl e q))
noncomputable def cut(xs:List AV)(lo hi:Option Int):List AV:=(xs.drop (lo.elim 0 (clipAt xs.length))).take (hi.elim xs.length (clipAt xs.length)-lo.elim 0 (clipAt xs.length))
def zpO(xs:List AV)(lo hi:Option Int)(Q:zl)(Y:AHeap):Prop:=match hi with
 | none=>zt lo λk=>onB (decide (1<=k)&&Nat.ble k.toNat xs.length) (Q (.tup (xs.drop k.toNat)) Y)
 | some _=>False
def ztu(r:Bool)(a:AV)(lo hi:Option Int)(Q:zl)(Y:AHeap):Prop:=match a with
 | .tup xs=>zpO xs lo hi Q Y
 | x=>zt (jf Y x) λxs=>mkL r (cut xs lo hi) Q Y
section
variable{X:Cx}{A:Around}{Y:AHeap}{s:Shared}{Q:zl}{E:Value->Shared->Prop}{d:Dp}
theorem zfv{h:Heap}{xs:List AV}{vs:List Value}{k:Int}{x:AV}(r:RepVs Y h xs vs)(e:jK xs k=some x):∃v,RepV Y h x v/\((0<=k/\vs[k.toNat]? = some v)\/(k<0/\-(vs.length:Int)<=k/\vs[(k+vs.length).toNat]? = some v)):=by
 unfold jK at e;split at e
 .refine zb (r.get e) λv h1 h2=>?_;exact zc v h2 (.inl ⟨by assumption,h1⟩)
 .split at e
  .refine zb (r.get e) λv h1 h2=>?_;rw[r.length] at h1
   rename_i h3 h4
   rw[r.length] at h4;exact zc v h2 (.inr (zo (y42 h3) h4 h1))
  .exact absurd (Eq.symm e) (fP _)
theorem zhh{xs:List AV}{k:Int}{y:AV}{u:Value}{tk:Tok}{x:AV}(hx:x = .tup xs\/IsL Y x xs)(a:At X Y s)(rx:RepV Y s.heap x u)(hy:jK xs k=some y)(q:Q y (vis Y)) :
  wpAny X.M A (getItem u (.int k tk)) (liftQ X Y s Q) E s/\∃T id,s.TypeIs u T/\typeLookup (.type T) "__getitem__" = pure (some (.builtin id)):=by
 rcases hx with rfl|hx
 .refine zj (RepV.wH rx) λt vs e4_2 hl ht rs=>?_;subst e4_2;refine zb (zfv rs hy) λw rw_ hw=>?_;have hlen:=rs.length;refine zgH ?_ ("tuple") _ ht.typeIs slot_tuple_getitem.lookup
  rcases hw with⟨h1,h2⟩|⟨h1,h2,h3⟩
  .have h4:k.toNat<vs.length:=(fW.mp h2).1;exact getItem_tuple ht (by lia) (by lia) (seqIndex_of h1 (by simp;exact y96 h4)) (by simpa using h2) (zb3 a rw_ q)
  .exact getItem_tuple ht (by lia) (by lia) (seqIndex_neg h1 (by simpa using h2)) (by simpa using h3) (zb3 a rw_ q)
 .refine zv (a.isList hx rx) λp vs e6_2 _ hl rs hm=>?_;subst e6_2;refine zb (zfv rs hy) λw rw_ hw=>?_;have hlen:=rs.length;refine zgH ?_ ("list") _ hl.typeIs slot_list_getitem.lookup
  rcases hw with⟨h1,h2⟩|⟨h1,h2,h3⟩
  .have h4:k.toNat<vs.length:=(fW.mp h2).1;exact wpAny_getItem_list hl h1 (by lia) (by simpa using h2) (zb3 a rw_ q)
  .exact wpAny_getItem_list_neg hl h1 (by simpa using h2) (by lia) (by simpa using h3) (zb3 a rw_ q)
theorem zfg{x i:AV}{u v:Value}{dp:Dp}(L:Live X dp A)(a:At X Y s)(rx:RepV Y s.heap x u)(ri:RepV Y s.heap i v)(q:zqL x i Q (vis Y)) :
  wpAny X.M A (getItem u v) (liftQ X Y s Q) E s/\∃T id,s.TypeIs u T/\typeLookup (.type T) "__getitem__" = pure (some (.builtin id)):=by
 cases x with
 | tup xs=>
  refine zb (zg q) λk e q1=>?_;refine zb (zg q1) λy hy q2=>?_;have e:=jp e;subst e;obtain⟨_,rfl⟩:=RepV.wD ri;exact zhh (.inl rfl) a rx hy q2
 | lst xs=>
  refine zb (zg q) λk e q1=>?_;refine zb (zg q1) λy hy q2=>?_;have e:=jp e;subst e;obtain⟨_,rfl⟩:=RepV.wD ri;exact zhh (.inr .lst) a rx hy q2
 | ref p=>
  have qr:zcX p i Q (vis Y):=q;clear q;unfold zcX at qr
  rcases qr with⟨xs,k,y,hp,rfl,hy,q⟩|⟨kvs,k,y,hp,rfl,hy,q⟩|⟨fs,n,y,hp,rfl,hy,q⟩
  .obtain⟨_,rfl⟩:=RepV.wD ri;exact zhh (.inr (.ref hp)) a rx hy q
  .obtain rfl:=RepV.wM rx;have hp':=(zG hp).1;refine zb (a.tab hp') λxs hD _=>?_;exact zgH (zrv L a hp' ri hy q) ("dict") _ hD.typeIs slot_dict_getitem.lookup
  .obtain rfl:=RepV.wM rx;have hp':=(zG hp).1;refine zb (a.rep _ _ hp') λkvs hD _=>?_;exact⟨ztq a hp' ri hy q,"dict",_,hD.mapOf.typeIs,slot_dict_getitem.lookup⟩
 | _=>exact q.elim
theorem RepVs.cut{h:Heap}{xs:List AV}{vs:List Value}(r:RepVs Y h xs vs)(lo hi:Option Int):RepVs Y h (cut xs lo hi) (slicePick vs.toArray lo hi none).toList:=by
 rw[slicePick_plain];unfold Mine.Internal.cut;simp only[gB,r.length];exact(r.drop _).take _
theorem zjC(xs:List AV)(lo hi:Option Int):(cut xs lo hi).length<=xs.length:=by
 unfold cut;rw[fC4,List.length_drop];exact zBY
end
noncomputable def zcz(e:Expr):Bool:=!Nat.beq e.ctorIdx 26
theorem zcN{e:Expr}(h:zcz e=true)(o i:Value):subscripted e false o i=operate [o,i] (getItem o i):=by
 cases e<;>first|rfl|exact nob h
namespace A
def vD(Q:zl)(a:AV):zl:=λb Y2=>zqL a b Q Y2
def zx5(i:AE)(d:Dp)(l:Loc)(Q:zl)(Z:XP):zl:=λa Y1=>i d l (vD Q a) Z Y1
def idx(x i:AE):AE:=λd l Q Z Y=>x d l (zx5 i d l Q Z) Z Y
def opt(m:Option AE)(d:Dp)(l:Loc)(Q:Option Int->AHeap->Prop)(Z:XP)(Y:AHeap):Prop:=match m with
 | none=>Q none Y
 | some m=>m d l (λv Y1=>zt v.int? λi=>Q (some i) Y1) Z Y
def wU(r:Bool)(x:AE)(lo hi:Option AE):AE:=λd l Q Z Y=>x d l (λa Y1=>opt lo d l (λlo' Y2=>opt hi d l (λhi' Y3=>ztu r a lo' hi' Q Y3) Z Y2) Z Y1) Z Y
end A
noncomputable def zgg(X:Cx)(env:Env)(nm:List (Str×Nat)):Option Expr->Option AE->Prop
 | none,none=>True
 | some e,some m=>zi X env nm e m
 | _,_=>False
section
variable{X:Cx}{env:Env}{nm:List (Str×Nat)}
theorem znm{e i:Expr}{m mi:AE}{pos:Pos}(h:zi X env nm e m)(hi:zi X env nm i mi)(hn:zcz i=true):zi X env nm (.Subscript e i pos) (A.idx m mi):=λd A l Y s Q Z L a F q=>by
 refine Subscript_ (zam (h d A l Y s _ Z L a F q) λav v Y1 s1 rv a1 st1 q1=>?_);refine Ha (hi d A l Y1 s1 _ Z L a1 (F.step a st1) q1) (λv2 s2 hpx=>?_) λ_ _ x=>x.back st1;refine zj hpx λav2 Y2 rv2 a2 st2 q2=>?_;refine zqz (zfg (A:=A) (E:=liftX X Y2 s2 Z) L a2 (rv.mono (st2.keepV0 a1)) rv2 q2) λh1 T id hT hl=>?_;exact j4 (st1.trans st2) (tail_any hT hl h1 (zcN hn _ _))
theorem zfV{e:Option Expr}{m:Option AE}(h:zgg X env nm e m){d A l Y s Q Z}(L:Live X d A)(a:At X Y s)(F:FR X env nm l Y s.heap)(q:Mine.Internal.A.opt m d l Q Z (vis Y)){R:Value->Shared->Prop}
  (k:∀v o s' Y',IsPart v o->At X Y' s'->Step E0 Y s Y' s'->Q o (vis Y')->R v s'):wpAny X.M A (valueOrNone (evalOpt e env)) R (liftX X Y s Z) s:=by
 cases e with
 | none=>
  cases m with
  | none=>exact G9 (k _ _ _ _ .none a (.refl ..) q)
  | some m=>exact h.elim
 | some e=>
  cases m with
  | none=>exact h.elim
  | some m=>
   refine Ha (h d A l Y s _ Z L a F q) (λv s1 hpx=>?_) λ_ _ x=>x;refine zj hpx λav Y1 rv a1 st1 q1=>?_;refine zb (zg q1) λi hi q1=>?_;have hi:=jp hi;subst hi;obtain⟨_,rfl⟩:=RepV.wD rv;exact k _ _ _ _ (.int _ _) a1 st1 q1
theorem ziY{r:Bool}{e:Expr}{lo hi:Option Expr}{m:AE}{mlo mhi:Option AE}{p pos:Pos}(h:zi X env nm e m)(hlo:zgg X env nm lo mlo)(hhi:zgg X env nm hi mhi) :
  zi X env nm (.Subscript e (.Slice lo hi none p) pos) (A.wU r m mlo mhi):=λd A l Y s Q Z L a F q=>by
 refine Subscript_ (zam (h d A l Y s _ Z L a F q) λav v Y1 s1 rv a1 st1 q1=>?_);have F1:=F.step a st1;refine G8 (Ha (zfV hlo L a1 F1 q1 (R:=λv2 s2=>∃o Y2,IsPart v2 o/\At X Y2 s2/\Step E0 Y1 s1 Y2 s2/\_) λv2 o s2 Y2 p2 a2 st2 q2=>(zq o Y2 p2 a2 st2 q2)) (λv2 s2 hpx=>?_) λ_ _ x=>x.back st1);refine zj hpx λo Y2 p2 a2 st2 q2=>?_;have F2:=F1.step a1 st2;refine G8 (Hb (Ha (zfV hhi L a2 F2 q2 (R:=λv3 s3=>∃o Y3,IsPart v3 o/\At X Y3 s3/\Step E0 Y2 s2 Y3 s3/\_) λv3 o s3 Y3 p3 a3 st3 q3=>(zq o Y3 p3 a3 st3 q3)) (λv3 s3 hpx=>?_) λ_ _ x=>x.back (st1.trans st2)));refine zj hpx λo3 Y3 p3 a3 st3 q3=>?_;refine G8 (Hb (G9 ?_));refine wpAny_newObj_type ?_;have rv3:=(rv.mono (st2.keepV0 a1)).mono (st3.keepV0 a2);have st13:=st1.trans (st2.trans st3);generalize hso:({ cls:=.type "slice",data:=.fields #[v2,v3,Value.none] }:Obj)=so;have st4:Step E0 Y3 s3 Y3 { s3 with heap:=s3.heap.push so }:=Step.push Y3 s3 so s3.toks;have a4:At X Y3 { s3 with heap:=s3.heap.push so }:=a3.push so s3.toks;have rv4:=rv3.mono (st4.keepV0 a3);have hsl:(s3.heap.push so).IsSliceOf s3.heap.objs.size v2 v3 .none:=by rw[<-hso];exact Heap.IsSliceOf.new ..
 refine j4 (st13.trans st4) ?_;have hc:(∃xs,av = .tup xs/\zpO xs o o3 Q (vis Y3))\/zt (jf (vis Y3) av) λxs=>mkL r (cut xs o o3) Q (vis Y3):=by
  cases av with
  | tup xs=>exact .inl (zc xs rfl q3)
  | _=>exact .inr q3
 clear q3
 rcases hc with⟨xs,rfl,q3⟩|q3
 .cases o3 with
  | some _=>exact q3.elim
  | none=>
   refine zb (zg q3) λk e24_1 q4=>?_;subst e24_1;obtain⟨hb,q5⟩:=qG q4;have hb:=gA.mp hb;have h2:=gQ hb.2;obtain⟨k,rfl⟩:∃n:Nat,k=n:=⟨k.toNat,by lia⟩
   refine zj (RepV.wH rv4) λt vs e26_2 hl ht rs=>?_;subst e26_2;cases p2;cases p3;have hlen:=rs.length;refine tail_any (ops:=[.ref s3.heap.objs.size,_]) ht.typeIs slot_tuple_getitem.lookup (getItem_tuple_from ht hsl (by lia) (by simp;exact ztW h2 hlen) ?_ (by simp[Hc];exact zhw hl hlen)) rfl;generalize hH:({ s3 with heap:=s3.heap.push so }:Shared)=s4 at a4 rs ht ⊢;have hh:s4.heap=s3.heap.push so:=by rw[<-hH]
   refine zq _ Y3 (.tup (by rw[List.length_drop];exact zz4 hl) (vs:=vs.drop k) (qn ({ cls:=.type "tuple",data:=.seq (vs.toArray.toList.drop k).toArray }) ?_ rfl 0 (by simp)) ((rs.drop k).mono (.push _))) (a4.push _ s4.toks) (Step.push Y3 s4 _ s4.toks) q5;exact Heap.get?_push_size _ rfl
 .refine zb (zg q3) λxs hx q4=>?_;refine zv (a4.isList (ja hx) rv4) λp vs e28_2 _ hl rs hm=>?_;subst e28_2;refine tail_any (ops:=[.ref s3.heap.objs.size,_]) hl.typeIs slot_list_getitem.lookup (wpAny_getItem_list_slice hl hsl p2 p3 .none (by simp) ?_ (by simp[<-rs.length,Hc];exact zht hm)) rfl;generalize hH:({ s3 with heap:=s3.heap.push so }:Shared)=s4 at a4 rs hl ⊢;have:=zs9 (t:=s4.toks) (n:=0) (Q:=Q) (r:=r) a4 (rs.cut o o3) (fE (zjC ..) hm) q4;exact this
end
abbrev zbK:=Bool->List AV->zl->AHeap->Prop
def jg(X:Cx)(f:Value)(p:zbK):Prop:=
 ∀d A Y s r as vs Q E,Live X d A->d.hd=false->At X Y s->RepVs Y s.heap as vs->p r as Q (vis Y)->wpAny X.M A (PySem.call f vs) (liftQ X Y s Q) E s
namespace A
def w3(d:Dp)(P:Prop):Prop:=match d.hd with
 | false=>P
 | true=>False
end A
theorem kL{d:Dp}{P:Prop}(h:A.w3 d P):d.hd=false/\P:=by
 unfold A.w3 at h;cases e:d.hd with
 | false=>rw[e] at h;exact⟨rfl,h⟩
 | true=>rw[e] at h;exact h.elim
namespace A
def zuD(p:zbK)(r:Bool)(Q:zl):List AV->AHeap->Prop:=λas Y'=>p r as Q Y'
def prim(p:zbK)(r:Bool)(args:List AE):AE:=λd l Q Z Y=>w3 d (za7 args d l (zuD p r Q) Z Y)
end A
section
variable{X:Cx}{env:Env}{nm:List (Str×Nat)}
theorem zkO{r:Bool}{x:Str}{f:Value}{p:zbK}{es:List Expr}{ms:List AE}{gp pos:Pos}(XO:X.Ok)(EO:EnvOk env)(hx:env.kindOf x=some .globalImplicit)(hd:(x==("__debug__" : Str))=false)(hn:X.mg x=none)(hv:X.mb x=some f)
  (hf:(∃id,f = .builtin id)\/∃T,f = .type T)(hp:jg X f p)(h:SoundEs X env nm es ms):zi X env nm (.Call (.Name x gp) es [] pos) (A.prim p r ms):=λd A l Y s Q Z L a F q=>by
 obtain⟨hd1,q⟩:=kL q;refine Call_ (jR XO EO a hx hd hn hv ?_)
 rcases hf with⟨id,rfl⟩|⟨T,rfl⟩
 .refine Calls.callWith_builtin h.plain (qH h L a F q λvs s1 hpx=>?_);refine zj hpx λavs Y1 rv a1 st q1=>?_;exact j4 st (hp d A Y1 s1 r avs vs Q _ L hd1 a1 rv q1)
 .refine PyProof.Rows.callWith_type h.plain (qH h L a F q λvs s1 hpx=>?_);refine zj hpx λavs Y1 rv a1 st q1=>?_;exact j4 st (hp d A Y1 s1 r avs vs Q _ L hd1 a1 rv q1)
end
def zat(as:List AV)(K:AV->Prop):Prop:=match as with
 | []=>False
 | x::r=>match r with
  | []=>K x
  | _::_=>False
theorem jz{as:List AV}{K:AV->Prop}(h:zat as K):∃x,as=[x]/\K x:=by
 cases as with
 | nil=>exact h.elim
 | cons x r=>cases r with
  | nil=>exact zc x rfl h
  | cons _ _=>exact h.elim
noncomputable def zlO(Y:AHeap)(x:AV):Option (List AV):=match x with
 | .tup xs=>some xs
 | x=>jf Y x
theorem zpJ{Y:AHeap}{x:AV}{xs:List AV}(h:zlO (vis Y) x=some xs):x = .tup xs\/IsL Y x xs:=by
 cases x with
 | tup ys=>cases h;exact .inl rfl
 | _=>exact .inr (ja h)
def jm:zbK:=λ_ as Q Y=>zat as λx=>zt (zlO Y x) λxs=>Q (.int xs.length) Y
def qs:zbK:=λ_ as Q Y=>match as with
 | []=>False
 | x::r=>zt x.int? λa=>match r with
  | []=>Q (.rng 0 a) Y
  | _::_=>zat r λy=>zt y.int? λb=>Q (.rng a b) Y
noncomputable def ziO(lo hi:Int):List AV:=zh7 lo (hi-lo).toNat
def zpq:zbK:=λr as Q Y=>zat as λx=>zt (zlO Y x) λxs=>mkL r xs Q Y
section
variable{X:Cx}
theorem qt{Y:AHeap}{h:Heap}{x:AV}{vs:List Value}(r:RepVs Y h [x] vs):∃v,vs=[v]/\RepV Y h x v:=by
 obtain⟨_,_,rfl,a,r⟩:=RepVs.wF r;obtain rfl:=RepVs.wG r;exact zc _ rfl a
theorem zpy{Y:AHeap}{h:Heap}{x y:AV}{vs:List Value}(r:RepVs Y h [x,y] vs):∃v w,vs=[v,w]/\RepV Y h x v/\RepV Y h y w:=by
 cases r with
 | cons a r=>
  obtain⟨_,_,rfl,b,r⟩:=RepVs.wF r;obtain rfl:=RepVs.wG r;exact zN _ _ rfl a b
theorem At.isSeq{Y:AHeap}{s:Shared}(a:At X Y s){x:AV}{v:Value}{xs:List AV}(h:zlO (vis Y) x=some xs)(r:RepV Y s.heap x v) :
  ∃(b:Addr) (vs:List Value),v = .ref b/\(IsTup s.heap b vs.toArray\/s.heap.IsList b vs.toArray)/\RepVs Y s.heap xs vs/\xs.length<=1000000:=by
 rcases zpJ h with rfl|h
 .refine zj (RepV.wH r) λt vs e6_2 hl ht rs=>?_;subst e6_2;exact zq t vs rfl (.inl ht) rs hl
 .refine zv (a.isList h r) λb vs e _ h1 h2 h3=>?_;exact zq b vs e (.inr h1) h2 h3
theorem znp:jg X (.builtin "len") jm:=λd A Y s r as vs Q E L hd a rv q=>by
 refine zb (jz q) λx e8_1 q=>?_;subst e8_1;refine zb (zg q) λxs hx q=>?_;refine zb (qt rv) λv e10_1 rv1=>?_;subst e10_1;refine zj (a.isSeq hx rv1) λb vs e11_2 ht rs hl=>?_;subst e11_2;have hlen:=rs.length;have e:(vs.toArray.size:Int)=xs.length:=by simp[hlen]
 rcases ht with ht|ht
 .refine len_tuple ht (by simp;exact ztT hl hlen) ?_;rw[e];exact kU a (.int _ _) q
 .refine Calls.call_len_list ht (by simp;exact ztT hl hlen) ?_;rw[e];exact kU a (.int _ _) q
theorem ziX:jg X (.type "range") qs:=λd A Y s r as vs Q E L hd a rv q=>by
 cases as with
 | nil=>exact q.elim
 | cons x as=>
  refine zb (zg q) λi hi q1=>?_;have hi:=jp hi;cases as with
  | nil=>
   refine zb (qt rv) λv e13_1 rv1=>?_;subst e13_1;rw[hi] at rv1;obtain⟨_,rfl⟩:=RepV.wD rv1;exact call_range_1 (zq _ Y (.rng (Heap.get?_push_size _ rfl)) (a.push _ _) (Step.push Y s _ _) q1)
  | cons y as=>
   refine zb (jz q1) λy' e q2=>?_;cases e;refine zb (zg q2) λj hj q3=>?_;have hj:=jp hj;refine zm (zpy rv) λv w e17_2 rv1 rw_=>?_;subst e17_2;rw[hi] at rv1;rw[hj] at rw_;obtain⟨_,rfl⟩:=RepV.wD rv1;obtain⟨_,rfl⟩:=RepV.wD rw_;exact call_range_2 (zq _ Y (.rng (Heap.get?_push_size _ rfl)) (a.push _ _) (Step.push Y s _ _) q3)
theorem At.grown{Y:AHeap}{s:Shared}{h':Heap}(a:At X Y s)(t:Nat)(hk:∀b o,s.heap.get? b=some o->h'.get? b=some o):At X Y { s with heap:=h',toks:=t }:=
 ⟨λb o e=>hk b o (a.keep b o e),λb ao e=>(a.rep b ao e).mono (.ext hk) λo ho=>hk b o ho,a.own,a.gens,a.os,a.ffk hk⟩
theorem Step.grown{B:Addr->Prop}(Y:AHeap){s:Shared}{h':Heap}(t:Nat)(hk:∀b o,s.heap.get? b=some o->h'.get? b=some o)(hsz:s.heap.objs.size<=h'.objs.size):Step B Y s Y { s with heap:=h',toks:=t }:=.same (λb o e _=>hk b o e) hsz
theorem zfE{Y:AHeap}{s:Shared}(a:At X Y s){b:Addr}(hb:s.heap.objs.size<=b):b∉X.fr:=λq=>by
 refine zd8 (a.ff b q) λ_ o _ _ e _=>?_;exact absurd (Heap.lt_size e) (pQ.mpr hb)
theorem zc4{r:Bool}{Y:AHeap}{s:Shared}{h':Heap}{t:Nat}{b:Addr}{xs:List AV}{vs:List Value}{n:Nat}{Q:zl}(a:At X Y s)(hk:∀b o,s.heap.get? b=some o->h'.get? b=some o)(hb:s.heap.objs.size<=b)(hn:h'.get? b=some (zS vs n))(rv:RepVs Y h' xs vs)
  (hl:xs.length<=1000000)(hsz:s.heap.objs.size<=h'.objs.size)(q:mkL r xs Q (vis Y)):liftQ X Y s Q (.ref b) { s with heap:=h',toks:=t }:=by
 have h0:=a.none_of_size hb;have a1:=a.grown t hk;have st1:Step E0 Y s Y { s with heap:=h',toks:=t }:=.grown Y t hk hsz;have hh0:X.h₀.get? b=none:=by
  cases h:X.h₀.get? b with
  | none=>rfl
  | some ob=>exact absurd (Heap.lt_size (a.keep _ _ h)) (pQ.mpr hb)
 cases r with
 | true=>exact⟨.ref b,_,.ref _,a1.adopt (ao:=.list xs) h0 hh0 (zfE a hb) λkv=>(zN vs n hn (rv.mono kv) hl),st1.adopt h0 hb,by rw[jF rfl];exact q _ (qw h0)⟩
 | false=>exact zq (.lst xs) _ (.lst (AHeap.wA ..)) (a1.adopt (ao:=.frz xs) h0 hh0 (zfE a hb) λkv=>(zr vs (qn _ hn rfl n rfl) (rv.mono kv) hl)) (st1.adopt h0 hb) (by rw[zhr h0];exact q)
theorem zkL:jg X (.type "list") zpq:=λd A Y s r as vs Q E L hd a rv q=>by
 refine zb (jz q) λx e21_1 q=>?_;subst e21_1;refine zb (zg q) λxs hx q=>?_;refine zb (qt rv) λv e23_1 rv1=>?_;subst e23_1;refine zj (a.isSeq hx rv1) λb vs e24_2 ht rs hl=>?_;subst e24_2;have hlen:=rs.length
 rcases ht with⟨o,ho,hc,n,hd⟩|⟨o,ho,hc,n,hd⟩
 .refine zM (call_list_seq _ (.inr rfl) ho hc hd (λh' c' hk hn hsz=>?_) (by simp[Hc];exact zhw hl hlen));exact zc4 (t:=s.toks) a hk (fN _) hn (rs.mono (.ext hk)) hl hsz q
 .refine zM (call_list_seq _ (.inl rfl) ho hc hd (λh' c' hk hn hsz=>?_) (by simp[Hc];exact zhw hl hlen));exact zc4 (t:=s.toks) a hk (fN _) hn (rs.mono (.ext hk)) hl hsz q
end
inductive PyT where
 | tuple|str|int|bool|list|dict
noncomputable def PyT.name:PyT->String
 | .tuple=>"tuple" | .str=>"str" | .int=>"int" | .bool=>"bool" | .list=>"list" | .dict=>"dict"
noncomputable def zb4(K:String)(T:PyT):Bool:=match T with
 | .tuple=>K=="tuple" | .str=>K=="str" | .int=>K=="int"||K=="bool" | .bool=>K=="bool" | .list=>K=="list" | .dict=>K=="dict"
noncomputable def isO(T:PyT)(o:AO):Option Bool:=match o with
 | .list _=>some (zb4 "list" T)
 | .tdict _=>some (zb4 "dict" T)
 | .idict _=>some (zb4 "dict" T)
 | _=>none
noncomputable def isA(T:PyT)(x:AV)(Y:AHeap):Option Bool:=match x with
 | .none=>some (zb4 "NoneType" T)
 | .bool _=>some (zb4 "bool" T)
 | .int _=>some (zb4 "int" T)
 | .str _=>some (zb4 "str" T)
 | .tup _=>some (zb4 "tuple" T)
 | .lst _=>some (zb4 "list" T)
 | .ref p=>(Y p).bind (isO T)
 | _=>none
theorem zbi(T:PyT):typeOf (.type T.name)=pure (.type "type"):=by cases T<;>(unfold PyT.name;kernel_rfl)
noncomputable def kT:List String:=["int","bool","str","tuple","list","dict","NoneType"]
theorem zu1{K:String}(hK:K∈kT)(T:PyT):isSubtype (.type K) (.type T.name)=pure (zb4 K T):=by
 unfold kT at hK;simp only[fJ,gD,or_false] at hK
 rcases hK with rfl|rfl|rfl|rfl|rfl|rfl|rfl<;>cases T<;>(rw[isSubtype_type];kernel_rfl)
theorem zyk{K:String}{T:PyT}(h:zb4 K T=false):(Value.type K==Value.type T.name)=false:=by
 have:K≠T.name:=λe=>by subst e;cases T<;>cases h
 simpa using this
def zuK(T:PyT)(x:AV)(Q:zl)(Y:AHeap):Prop:=zt (isA T x Y) λb=>Q (.bool b) Y
section
variable{X:Cx}{A:Around}{Y:AHeap}{s:Shared}{Q:zl}{E:Value->Shared->Prop}
theorem zbS{T:PyT}{v:Value}{K:String}(hK:K∈kT)(a:At X Y s)(hT:s.TypeIs v K)(q:Q (.bool (zb4 K T)) (vis Y))
  (no:(Value.type K==Value.type T.name)=false->isSubtype (.type K) (.type T.name)=pure false->liftQ X Y s Q (.bool false) { s with toks:=s.toks+1 }->wpAny X.M A (PySem.call (.builtin "isinstance") [v,.type T.name]) (liftQ X Y s Q) E s) :
  wpAny X.M A (PySem.call (.builtin "isinstance") [v,.type T.name]) (liftQ X Y s Q) E s:=by
 have e:=zu1 hK T;cases hb:zb4 K T with
 | true=>rw[hb] at e q;exact call_isinstance (isinstance_true (Tx:=K) (zbi T) e) ⟨hT,zb3 a (.bool _) q⟩
 | false=>rw[hb] at e q;exact no (zyk hb) e (kU a (.bool _) q)
theorem zic{T:PyT}{p:Addr}{vs:Array Value}(a:At X Y s)(ht:s.heap.IsList p vs)(q:Q (.bool (zb4 "list" T)) (vis Y)):wpAny X.M A (PySem.call (.builtin "isinstance") [.ref p,.type T.name]) (liftQ X Y s Q) E s:=
 zbS (by decide) a ht.typeIs q λh1 h2 fin=>call_isinstance (isinstance_false_list h1 (zbi T) h2) ⟨ht.typeIs,fin⟩
theorem zib{T:PyT}{p:Addr}(a:At X Y s)(ht:s.TypeIs (.ref p) "dict")(q:Q (.bool (zb4 "dict" T)) (vis Y)):wpAny X.M A (PySem.call (.builtin "isinstance") [.ref p,.type T.name]) (liftQ X Y s Q) E s:=
 zbS (by decide) a ht q λh1 h2 fin=>call_isinstance (isinstance_false_dict h1 (zbi T) h2) ⟨ht,fin⟩
theorem zqS{T:PyT}{p:Addr}{o:AO}(a:At X Y s)(ho:Y p=some o)(q:zt (isO T o) λb=>Q (.bool b) (vis Y)):wpAny X.M A (PySem.call (.builtin "isinstance") [.ref p,.type T.name]) (liftQ X Y s Q) E s:=by
 cases o with
 | list xs=>refine zb (a.isList0 (.inl ho)) λvs ht _=>?_;exact zic a ht q
 | tdict kvs=>refine zb (a.tab ho) λxs hD _=>?_;exact zib a hD.typeIs q
 | idict fs=>refine zb (a.rep _ _ ho) λkvs hD _=>?_;exact zib a hD.mapOf.typeIs q
 | _=>exact q.elim
theorem zmz{T:PyT}{x:AV}{v:Value}(a:At X Y s)(rx:RepV Y s.heap x v)(q:zuK T x Q (vis Y)):wpAny X.M A (PySem.call (.builtin "isinstance") [v,.type T.name]) (liftQ X Y s Q) E s:=by
 cases rx with
 | none=>exact zbS (K:="NoneType") (by decide) a rfl q λh1 h2 fin=>call_isinstance (isinstance_false_none h1 (zbi T) h2) fin
 | bool c=>exact zbS (K:="bool") (by decide) a rfl q λh1 h2 fin=>call_isinstance (isinstance_false_bool h1 (zbi T) h2) fin
 | int c t=>exact zbS (K:="int") (by decide) a rfl q λh1 h2 fin=>call_isinstance (isinstance_false_int h1 (zbi T) h2) fin
 | str c t=>exact zbS (K:="str") (by decide) a rfl q λh1 h2 fin=>call_isinstance (isinstance_false_str h1 (zbi T) h2) fin
 | tup hl ht rs=>exact zbS (K:="tuple") (by decide) a ht.typeIs q λh1 h2 fin=>call_isinstance (isinstance_false_tuple h1 (zbi T) h2) ⟨ht.typeIs,fin⟩
 | lst hp=>refine zb (a.isList0 (.inr hp)) λvs ht _=>?_;exact zic a ht q
 | ref p=>
  refine zb (zg q) λb hb q=>?_;refine zb (pT.mp hb) λo ho hb=>?_;exact zqS a (zG ho).1 (ze hb q)
 | rng _=>exact q.elim
 | exc _=>exact q.elim
end
namespace A
def zx6(T:PyT)(Q:zl):zl:=λa Y1=>zuK T a Q Y1
def isa(T:PyT)(x:AE):AE:=λd l Q Z Y=>x d l (zx6 T Q) Z Y
end A
section
variable{X:Cx}{env:Env}{nm:List (Str×Nat)}
theorem zno{T:PyT}{Tn:Str}{e:Expr}{m:AE}{gp tp pos:Pos}(XO:X.Ok)(EO:EnvOk env)(hx:env.kindOf "isinstance" = some .globalImplicit)(hn:X.mg "isinstance" = none)(hv:X.mb "isinstance" = some (.builtin "isinstance"))
  (hxT:env.kindOf Tn=some .globalImplicit)(hd:(Tn==("__debug__" : Str))=false)(hnT:X.mg Tn=none)(hvT:X.mb Tn=some (.type T.name))(hs:jq e=true)(h:zi X env nm e m) :
  zi X env nm (.Call (.Name "isinstance" gp) [e,.Name Tn tp] [] pos) (A.isa T m):=λd A l Y s Q Z L a F q=>by
 refine Call_ (jR XO EO a hx (by decide) hn hv ?_);refine Calls.callWith_builtin ?_ ?_
 .rw[zK hs];rfl
 rw[zK hs];refine Calls.evalArgs_plain ?_;show wpAny X.M A (spliced ((false,eval e env)::backTo pos (starEach [.Name Tn tp] env))) _ _ s;refine Calls.spliced_cons (zam (h d A l Y s _ Z L a F q) λav v Y1 s1 rv a1 st1 q1=>?_);show wpAny X.M A (spliced ((false,eval (.Name Tn tp) env)::[])) _ _ s1;refine Calls.spliced_cons (jR XO EO a1 hxT hd hnT hvT (Calls.spliced_nil ?_));exact j4 st1 (zmz a1 rv q1)
end
section
variable{X:Cx}{env:Env}{nm:List (Str×Nat)}{B:Addr->Prop}
inductive Names(B:Addr->Prop)(env:Env)(nm:List (Str×Nat)):List Expr->List Nat->Prop
 | nil:Names B env nm [] []
 | cons {x pos es i is}:nm.lookup x=some i->Sto B env x->Names B env nm es is->Names B env nm (.Name x pos::es) (i::is)
theorem Names.length{es is}(h:Names B env nm es is):es.length=is.length:=by
 induction h with
 | nil=>rfl
 | cons _ _ r ih=>rw[fH,fH,ih]
theorem zaQ(x:Str)(pos:Pos)(es:List Expr):assignEach (.Name x pos::es) env=(false,assign (.Name x pos) env)::assignEach es env:=rfl
theorem zb6{es is}(h:Names B env nm es is):(assignEach es env).length=es.length/\(assignEach es env).findIdx? (·.1)=none:=by
 induction h with
 | nil=>exact⟨rfl,rfl⟩
 | @cons x pos es i is _ _ r ih=>
  rw[zaQ];refine⟨by rw[fH,fH,ih.1],?_⟩;rw[List.findIdx?_cons];simp[ih.2]
theorem zdI(EO:EnvOk env)(hB:∀b,B b->FB env b){es is}(N0:Names B env nm es is):∀{A:Around} {l:Loc} {Y:AHeap} {s:Shared} {xs:List AV} {vs:List Value} {Q:Unit->Shared->Prop} {E:Value->Shared->Prop},At X Y s->FR X env nm l Y s.heap->RepVs Y s.heap xs vs->
  (∀s',FR X env nm (zrp is xs l) Y s'.heap->At X Y s'->Step B Y s Y s'->Q () s')->wpAny X.M A (assignInOrder ((assignEach es env).map (·.2)) vs) Q E s:=by
 induction N0 with
 | nil=>
  intro A l Y s xs vs Q E a F r h;have:assignInOrder ([]:List (Value->Sem Unit)) vs=pure ():=by cases vs<;>rfl
  show wpAny X.M A (assignInOrder [] vs) Q E s;exact G9 (h s (by cases xs<;>exact F) a (.refl ..))
 | @cons x pos es i is hx hk nr ih=>
  intro A l Y s xs vs Q E a F r h;rw[zaQ];cases r with
  | nil=>exact G9 (h s F a (.refl ..))
  | @cons y ys v ws ry rs=>
   refine G8 (Hb (wpAny_assign_Name (zgd EO F a hx hk ry λs1 F1 a1 st1=>?_)));have no:NoStay B s.heap:=λb o hb e=>F.noStay b o (hB b hb) e;refine ih a1 F1 (rs.mono (st1.keepV a no)) λs2 F2 a2 st2=>h s2 F2 a2 (st1.trans st2)
theorem ziT{es:List Expr}{is:List Nat}{k:Nat}{pos:Pos}(EO:EnvOk env)(hB:∀b,B b->FB env b)(N:Names B env nm es is):za1 B X env nm (.Tuple es k pos) (.many is):=λd A l l' Y s x v Q E L hd a F r hb h=>by
 cases x with
 | tup xs=>
  have hb:(if xs.length=is.length then some (zrp is xs l) else none)=some l':=hb
  by_cases hlen:xs.length=is.length
  .rw[if_pos hlen] at hb;obtain rfl:=Hy hb;refine zj (RepV.wH r) λt vs e0_2 hl ht rs=>?_;subst e0_2;have e:=zb6 N;have hvl:=rs.length;refine G8 (Hi ?_);unfold unpack;have en:(assignEach es env).length=vs.toArray.size:=by rw[e.1,N.length,<-hlen,hvl];simp
   rw[e.2,en];refine G8 (Hb (zM (wpAny_unpackItems_tuple (L.handled hd) ht λh' he' hsz=>?_)));have hk:∀b o,s.heap.get? b=some o->h'.get? b=some o:=λb o eo=>he' b o (fAO (Heap.lt_size eo)) eo;have a1:At X Y { s with heap:=h' }:=a.grown s.toks hk;have st1:Step E0 Y s Y { s with heap:=h' }:=.grown Y s.toks hk hsz;have rs1:=rs.mono (st1.keepV0 a);have:vs.toArray.toList=vs:=rfl;exact zdI EO hB N a1 (F.step a st1) rs1 λs2 F2 a2 st2=>h s2 F2 a2 ((st1.weaken λb hb=>hb.elim).trans st2)
  .rw[if_neg hlen] at hb;exact absurd (Eq.symm hb) (fP _)
 | _=>cases hb
end
noncomputable def zdx(lo hi:Int):Bool:=Nat.blt lo.natAbs 1000000000000&&Nat.blt hi.natAbs 1000000000000
theorem nab{i:Int}{c:Nat}(h:i.natAbs<c) : -(c:Int)<i/\i<c:=
 ⟨Int.neg_lt_of_neg_lt (fA0 (Int.natAbs_neg i▸Int.le_natAbs) (fBB.mpr h)),fA0 Int.le_natAbs (fBB.mpr h)⟩
theorem zpA{lo hi:Int}(h:zdx lo hi=true) : -1000000000000<lo/\lo<1000000000000/\-1000000000000<hi/\hi<1000000000000:=
 jT (gA.mp h) λh1 h2=>⟨(nab (gQ h1)).1,(nab (gQ h1)).2,nab (gQ h2)⟩
def zoK(v:AV)(Y:AHeap)(K:(AHeap->Prop)->List AV->Prop):Prop:=match v with
 | .tup xs=>K (λ_=>True) xs
 | .rng lo hi=>onB (zdx lo hi) (K (λ_=>True) (ziO lo hi))
 | x=>zt (jf Y x) λxs=>K (zbE x xs) xs
structure IterAt(X:Cx)(A:Around)(target:Expr)(Y:AHeap)(s:Shared)(K:(AHeap->Prop)->List AV->Prop)(it:Value)(s':Shared):Prop where
 ex:∃I xs W St,ItOk X A target it I xs W St/\St 0 Y s'.heap/\(∀b,W b->Y b=none/\X.h₀.get? b=none/\s.heap.objs.size<=b)/\I (vis Y)/\K I xs
 at_:At X Y s'
 step:Step E0 Y s Y s'
section
variable{X:Cx}{A:Around}{Y:AHeap}{s:Shared}{E:Value->Shared->Prop}{d:Dp}{target:Expr}
theorem qa(a:At X Y s){b:Nat}(hb:s.heap.objs.size<=b):Y b=none/\X.h₀.get? b=none/\s.heap.objs.size<=b:=(zo (a.none_of_size hb) (by
 cases h:X.h₀.get? b with
 | none=>rfl
 | some ob=>exact absurd (Heap.lt_size (a.keep _ _ h)) (pQ.mpr hb)) hb)
theorem zbT{v:AV}{u:Value}{xs:List AV}(a:At X Y s)(hx:jf (vis Y) v=some xs)(r:RepV Y s.heap v u):∃(p:Addr) (vs:List Value),u = .ref p/\s.heap.IsList p vs.toArray/\RepVs Y s.heap xs vs/\zbE v xs (vis Y)/\stL v p xs Y:=by
 refine zv (a.isList (ja hx) r) λp vs e1_2 ho hl rs _=>?_;subst e1_2;refine jw p vs rfl hl rs ?_ ?_
 .cases ja hx with
  | ref h=>exact h
  | lst=>trivial
 .cases r with
  | ref a=>exact rfl
  | lst h=>cases ja hx;exact h
  | tup _ _ _=>cases hx
  | rng _=>cases hx
  | exc _=>cases hx
theorem zjS{v:AV}{u:Value}{K:(AHeap->Prop)->List AV->Prop}(hh:A.handled=none)(a:At X Y s)(r:RepV Y s.heap v u)(h:zoK v (vis Y) K):wpAny X.M A (pyIter u) (IterAt X A target Y s K) E s:=by
 have lists:(zt (jf (vis Y) v) λxs=>K (zbE v xs) xs)->wpAny X.M A (pyIter u) (IterAt X A target Y s K) E s:=λh=>by
  refine zb (zg h) λxs hx k=>?_;refine zv (zbT a hx r) λp vs e3_2 hl rs k1 k2=>?_;subst e3_2;exact wpAny_pyIter_list hl ⟨(jO _ xs _ _ (zmB hh s.heap.objs.size p v xs) ⟨(zr _ (Heap.get?_push_size _ rfl) rfl rfl),k2⟩ (λb hb=>by subst hb;exact qa a (fN _)) k1 k),a.push _ s.toks,Step.push Y s _ s.toks⟩
 cases v with
 | tup xs=>
  refine zj (RepV.wH r) λt vs e4_2 hl ht rs=>?_;subst e4_2;exact wpAny_pyIter_tuple ht ⟨(jO _ _ _ _ (zjR hh s.heap.objs.size t _) (kP (zr _ (Heap.get?_push_size _ rfl) rfl rfl) vs ((KeepV.push _).tup (Y:=Y) ht) (rs.mono (.push _))) (λb hb=>by subst hb;exact qa a (fN _)) trivial h),a.push _ s.toks,Step.push Y s _ s.toks⟩
 | rng lo hi=>
  cases r with
  | @rng _ _ t x y z ho=>
   obtain⟨hb,k⟩:=qG h;refine zB (zpA hb) λh1 h2 h3 h4=>?_;have hsz:Builtin.Range.rangeSize lo hi 1=(((hi-lo).toNat:Nat):Int):=by
    rw[rangeSize_one];split<;>(first|exact y57 (by assumption)|exact y61 (by assumption))
   have fl:∀z:Int,-1000000000000000<z->z<1000000000000000->Builtin.Range.rangeFitsLong z=true:=λz hz1 hz2=>by
    unfold Builtin.Range.rangeFitsLong;simp only[gX,decide_eq_true_eq];constructor<;>lia
   have hsmall:Builtin.Range.small lo hi 1=true:=by
    unfold Builtin.Range.small;rw[hsz,fl lo (by exact y12 h1) (y34 h2),fl hi (y12 h3) (y34 h4),fl 1 y0 y2,fl _ y65 (y47 h1 h4)];simp only[Bool.true_and,fC1];have:(1:Int)>0:=y3;simp only[this,if_true];rw[show hi+(1-1)=hi by exact y43,fl hi (by exact y12 h3) (by exact y34 h4)];simp
   refine wpAny_pyIter_range (t:=x) (u:=y) (v:=z) ho hsmall ?_;refine⟨(jO _ (ziO lo hi) _ _ (zjQ hh s.heap.objs.size lo (hi-lo).toNat) ?_ (λb hb=>by subst hb;exact qa a (fN _)) trivial k),a.push _ s.toks,Step.push Y s _ s.toks⟩;show (s.heap.push _).get? s.heap.objs.size=some _;rw[Heap.get?_push_size _ rfl,hsz];simp[rawInt]
 | none=>exact lists h
 | bool _=>exact lists h
 | int _=>exact lists h
 | str _=>exact lists h
 | lst _=>exact lists h
 | ref _=>exact lists h
 | exc _=>exact lists h
end
noncomputable def zeF(e:Expr):Bool:=!Nat.beq e.ctorIdx 7
theorem zav{e:Expr}{env:Env}(h:zeF e=true)(x:Value):foldedSetIterable e env x=pure x:=by
 cases e<;>first|rfl|exact nob h
abbrev AI:=Dp->Loc->(AHeap->(AHeap->Prop)->List AV->Prop)->XP->AHeap->Prop
namespace A
def kIt(K:AHeap->(AHeap->Prop)->List AV->Prop):zl:=λv Y1=>zoK v Y1 (K Y1)
def zx7(K:AHeap->(AHeap->Prop)->List AV->Prop):zl:=λv Y1=>zt (jf Y1 v) λxs=>K Y1 (zbE v xs) (zcd 0 xs)
def kFr(t:Tgt)(b:AS)(d:Dp)(l:Loc)(Q:zT)(Y1:AHeap)(I:AHeap->Prop)(xs:List AV):Prop:=zhX I t b d Q xs l Y1
def zx8(r:Bool)(Q:zl):List AV->AHeap->Prop:=λacc Y'=>mkL r acc Q Y'
def kLc(r:Bool)(t:Tgt)(k:Nat)(c:Option AE)(e:AE)(d:Dp)(l:Loc)(Q:zl)(Y1:AHeap)(I:AHeap->Prop)(xs:List AV):Prop:=za6 I t c e d (zx8 r Q) xs [] (l++List.replicate k none) Y1
def itP(m:AE):AI:=λd l K Z Y=>w3 d (m d l (kIt K) Z Y)
def itE(m:AE):AI:=λd l K Z Y=>w3 d (m d l (zx7 K) Z Y)
def fr(m:AI)(t:Tgt)(b:AS):AS:=λd l Q Z Y=>m d l (kFr t b d l Q) (kZ Z l) Y
def lc(r:Bool)(m:AI)(t:Tgt)(k:Nat)(c:Option AE)(e:AE):AE:=λd l Q Z Y=>m d l (kLc r t k c e d l Q) Z Y
end A
section
variable{X:Cx}{env:Env}{nm:List (Str×Nat)}
def za0(X:Cx)(env:Env)(nm:List (Str×Nat))(target iter:Expr)(m:AI):Prop:=
 ∀d A l Y s K Z (R:Value->Shared->Prop) E,Live X d A->At X Y s->FR X env nm l Y s.heap->m d l K Z (vis Y)->(∀e s',liftX X Y s Z e s'->E e s')->(d.hd=false->
  ∀Y1 s1 it s2,At X Y1 s1->Step E0 Y s Y1 s1->IterAt X A target Y1 s1 (K (vis Y1)) it s2->R it s2)->
  wpAny X.M A (eval iter env) (λx s1=>wpAny X.M A (pyIter x) R E s1) E s
theorem zcM{target iter:Expr}{m:AE}(h:zi X env nm iter m):za0 X env nm target iter (A.itP m):=λd A l Y s K Z R E L a F q hE hR=>by
 obtain⟨hd,q⟩:=kL q;refine Ha (h d A l Y s _ Z L a F q) (λx s1 hx=>?_) λe s' x=>hE e s' x;refine zj hx λav Y1 rv a1 st1 q1=>?_;exact Ha (zjS (target:=target) (L.handled hd) a1 rv q1) (λit s2 x=>hR hd Y1 s1 it s2 a1 st1 x) λ_ _ (e:False)=>e.elim
theorem ziS{elts:List Expr}{x1:Nat}{tp gp pos:Pos}{e:Expr}{m:AE}(XO:X.Ok)(EO:EnvOk env)(hx:env.kindOf "enumerate" = some .globalImplicit)(hn:X.mg "enumerate" = none)(hv:X.mb "enumerate" = some (.type "enumerate"))(hs:jq e=true)(h:zi X env nm e m) :
  za0 X env nm (.Tuple elts x1 tp) (.Call (.Name "enumerate" gp) [e] [] pos) (A.itE m):=λd A l Y s K Z R E L a F q hE hR=>by
 obtain⟨hd,q⟩:=kL q;refine Call_ (jR XO EO a hx (by decide) hn hv ?_);refine PyProof.Rows.callWith_type ?_ ?_
 .rw[zK hs];rfl
 rw[zK hs];refine Calls.evalArgs_plain ?_;show wpAny X.M A (spliced ((false,eval e env)::[])) _ _ s;refine Calls.spliced_cons (Ha (h d A l Y s _ Z L a F q) (λv s1 hpx=>Calls.spliced_nil ?_) λe s' x=>hE e s' x);refine zj hpx λav Y1 rv a1 st1 q1=>?_;refine zb (zg q1) λxs hx1 q2=>?_;refine zv (zbT a1 hx1 rv) λp vs e12_2 hl rs k1 k2=>?_;subst e12_2;refine zM (call_enumerate_list hl λh' he hit hsz hk hsz'=>?_);have a2:At X Y1 { s1 with heap:=h' }:=a1.grown s1.toks hk;have st2:Step E0 Y1 s1 Y1 { s1 with heap:=h' }:=.grown Y1 s1.toks hk hsz';refine wpAny_pyIter_enum he ?_;refine hR hd Y1 s1 _ _ a1 st1 ⟨(jO _ _ _ _ (zmA (L.handled hd) (s1.heap.objs.size+1) s1.heap.objs.size p (neA zzo) av xs) (zay hit k2 _ he) (λb hb=>?_) k1 q2),a2,st2⟩
 rcases hb with rfl|rfl
 .exact qa a1 (fBJ _)
 .exact qa a1 (fN _)
theorem znl{target iter:Expr}{body:List Stmt}{pos:Pos}{t:Tgt}{b:AS}{m:AI}(hn:zeF iter=true)(hi:za0 X env nm target iter m)(ht:za1 (FB env) X env nm target t)(hb:j8 X env nm body b) :
  jr X env nm (.For target iter body [] pos) (A.fr m t b):=λd A l Y s Q Z L a F q=>by
 refine wpAny_For (hi d A l Y s _ _ _ _ L a F q (λe s' x=>x.toS a F) λhd Y1 s1 it s2 a1 st1 IA=>?_) (zav hn);refine zW IA.ex λI xs W St IT hSt hW hI q1=>?_;have F2:=(F.step a st1).step a1 IA.step;refine zop (Y:=Y1) (Q:=Q) L hd IT ht hb (λb hb=>⟨(hW b hb).1,(hW b hb).2.1⟩) IA.at_ F2 hI hSt q1 λf s' hpx=>?_;refine qc hpx λfl l' Y' r a' F' st' q'=>?_;refine zH fl l' Y' r a' F' ?_ q';have st12:Step (λb=>FB env b\/W b) Y1 s1 Y1 s2:=IA.step.weaken λb hb=>hb.elim;have:=(st12.trans st').drop (B:=FB env) λb hb=>hb.imp id λhb=>(hW b hb).2.2;exact(st1.weaken FB.wP).trans this
structure SoundLC(X:Cx)(env:Env)(nm:List (Str×Nat))(N:Nat)(elt target iter:Expr)(ifs:List Expr)(scope:Scope)(nm':List (Str×Nat))(k:Nat)(t:Tgt)(c:Option AE)(e:AE)(m:AI):Prop where
 ns:zeF iter=true
 ck:CompOk env.scope.names nm N scope.names nm' k
 kind:scope.kind = .function
 iter:za0 X env nm target iter m
 tgt:∀C,za1 (λb=>b=C) X (compEnvC scope (clo env.cells scope.names []) C env) nm' target t
 test:∀C,zgf X (compEnvC scope (clo env.cells scope.names []) C env) nm' ifs c
 elt:∀C,zi X (compEnvC scope (clo env.cells scope.names []) C env) nm' elt e
theorem zdv{sc:List (Str×NameKind)}{N:Nat}{names:List (Str×NameKind)}{nm':List (Str×Nat)}{k:Nat}(CK:CompOk sc nm N names nm' k):∀x∈names,x.2 = .local->names.lookup x.1=some .local:=λx hx h=>by
 have:=j9 CK.nodup (n:=x.1) (c:=x.2) hx;rw[h] at this;exact this
theorem zpY{r:Bool}{B:Addr->Prop}{Y Y':AHeap}{s s':Shared}{D:Addr}{acc:List AV}{ys:List Value}{n:Nat}{Q:zl}(hDo:s'.heap.get? D=some (zS ys n))(rys:RepVs Y' s'.heap acc ys)(hacc:acc.length<=1000000)(a:At X Y' s')(st:Step B Y s Y' s')(hσ:Y' D=none)(h0:X.h₀.get? D=none)(hfr:D∉X.fr)(hD:s.heap.objs.size<=D)(q:mkL r acc Q (vis Y')) :
  ∃av ao,RepV (Y'.set D ao) s'.heap av (.ref D)/\At X (Y'.set D ao) s'/\Step B Y s (Y'.set D ao) s'/\Q av (vis (Y'.set D ao)):=by
 cases r with
 | true=>exact⟨.ref D,.list acc,.ref D,a.adopt hσ h0 hfr λkv=>(zN ys n hDo (rys.mono kv) hacc),st.adopt hσ hD,by rw[jF rfl];exact q D (qw hσ)⟩
 | false=>exact zq (.lst acc) (.frz acc) (.lst (AHeap.wA ..)) (a.adopt hσ h0 hfr λkv=>(zr ys (qn _ hDo rfl n rfl) (rys.mono kv) hacc)) (st.adopt hσ hD) (by rw[zhr hσ];exact q)
theorem zeX{r:Bool}{elt target iter:Expr}{ifs:List Expr}{scope:Scope}{pos:Pos}{nm':List (Str×Nat)}{N k:Nat}{t:Tgt}{c:Option AE}{e:AE}{m:AI}
  (EO:EnvOk env)(hN:kC nm=N)(S:SoundLC X env nm N elt target iter ifs scope nm' k t c e m) :
  zi X env nm (.ListComp elt [⟨target,iter,ifs,0⟩] scope pos) (A.lc r m t k c e):=λd A l Y s Q Z L a F q=>by
 refine wpAny_comprehension_free (use:=none) rfl (zav S.ns) (za5 (S.ck.closure F)) S.kind (zdv S.ck) ?_;refine S.iter d A l Y s _ Z _ _ L a F q (λe s' x=>x) λhd Y1 s1 it s2 a1 st1 IA=>?_;refine zW IA.ex λI xs W St IT hSt hW hI q1=>?_;have F2:=(F.step a st1).step a1 IA.step;refine zfA (RR:=λacc C=>compPost X.M A (liftX X Y s Z) none (liftQ X Y s Q) acc C) EO L hd IA.at_ F2 (F.len.trans hN) S.ck S.kind IT hSt (λb hb=>⟨(hW b hb).1,(hW b hb).2.1⟩) hI S.tgt S.test S.elt q1 ?_;intro D C s' Y' acc mC hfr hD hC hDC hσD hσC hns hDo a3 st3 q3;refine zc mC hns (λh' hs'=>?_);refine zm hDo λys n hDo rys hacc=>?_;have hC0:X.h₀.get? C=none:=(qa IA.at_ hC).2.1;have hD0:X.h₀.get? D=none:=(qa IA.at_ hD).2.1;have hCfr:C∉X.fr:=zfE IA.at_ hC;have kv:KeepV Y' s'.heap Y' h':=.mk' λb o e st=>(hs'.2 b (by rintro rfl;exact zae hns o e st)).trans e;have a4:At X Y' { s' with heap:=h' }:=a3.aside (t:=s'.toks) (h':=h') hσC hC0 (zae hns) (λq=>absurd q hCfr) hs';have hDo':h'.get? D=some (zS ys n):=(hs'.2 D hDC).trans hDo;have st4:Step (λb=>W b\/s1.heap.objs.size<=b) Y1 s1 Y' { s' with heap:=h' }:=by
  have x1:Step (λb=>W b\/s1.heap.objs.size<=b) Y1 s1 Y1 s2:=IA.step.weaken λb hb=>hb.elim;have x2:Step (λb=>W b\/s1.heap.objs.size<=b) Y1 s2 Y' s':=st3.weaken λb hb=>.inl hb;have x3:Step (λb=>W b\/s1.heap.objs.size<=b) Y' s' Y' { s' with heap:=h' }:=Step.aside (t:=s'.toks) (h':=h') (.inr (fE IA.step.size hC)) hs';exact x1.trans (x2.trans x3)
 have st5:Step E0 Y s Y' { s' with heap:=h' }:=st1.trans (st4.drop λb hb=>.inr (hb.elim (λhb=>(hW b hb).2.2) id));have hDs:s.heap.objs.size<=D:=fE st1.size (fE IA.step.size hD);refine zj (zpY hDo' (rys.mono kv) hacc a4 st5 hσD hD0 hfr hDs q3) λav ao h1 h2 h3 h4=>?_;exact zq av _ h1 h2 h3 h4
end
section
variable{X:Cx}{env:Env}{nm:List (Str×Nat)}
theorem FB.lt{l:Loc}{Y:AHeap}{s:Shared}(F:FR X env nm l Y s.heap){b:Nat}(h:FB env b):b<s.heap.objs.size:=by
 rcases h with h|⟨x,hx⟩
 .refine zb F.ns λm hn _=>?_;rw[h];exact hn.lt
 .refine kN (F.outc x b hx) λ_ _ v hc=>?_;exact hc.lt
theorem zfs{r:Bool}{elt target iter:Expr}{ifs:List Expr}{scope:Scope}{cpos py pos:Pos}{y:Str}{i:Nat}{nm':List (Str×Nat)}{N k:Nat}{t:Tgt}{c:Option AE}{e:AE}{m:AI}
  (EO:EnvOk env)(hN:kC nm=N)(S:SoundLC X env nm N elt target iter ifs scope nm' k t c e m)(hy:nm.lookup y=some i)(hky:env.kindOf y=some .local\/env.kindOf y=some .cell) :
  jr X env nm (.Assign [.Name y py] (.ListComp elt [⟨target,iter,ifs,0⟩] scope cpos) pos) (A.set i (A.lc r m t k c e)):=by
 have hsw:swapsWith (.ListComp elt [⟨target,iter,ifs,0⟩] scope cpos) (some (.Name y py)) pos.line env=pure (env.blockKind==.function&&env.kindOf y==some .local&&py.line==cpos.line&&!(scope.names.any λ(n,k)=>n==y&&(k==.local||k==.cell))):=rfl;cases hb:(env.blockKind==.function&&env.kindOf y==some .local&&py.line==cpos.line&&!(scope.names.any λ(n,k)=>n==y&&(k==.local||k==.cell))) with
 | false=>rw[hb] at hsw;exact zf5 EO (zeX EO hN S) hy hky hsw
 | true=>
  rw[hb] at hsw;intro d A l Y s Q Z L a F q;rw[exec_Assign_Name_used _ _ _ _ hsw];refine G8 (Hi (G8 ?_));refine G8 (Ha (wpAny_comprehension_free (use:=some (assign (.Name y py) env)) (Q:=λ_ s'=>liftS X env nm Y s Q .next s') rfl (zav S.ns) (za5 (S.ck.closure F)) S.kind (zdv S.ck) ?_) (λ_ s' hq=>G9 (G9 hq)) λ_ _ e=>e);refine S.iter d A l Y s _ _ _ _ L a F q (λe s' x=>x.toS a F) λhd Y1 s1 it s2 a1 st1 IA=>?_;refine zW IA.ex λI xs W St IT hSt hW hI q1=>?_;have F1:=F.step a st1;have F2:=F1.step a1 IA.step;refine zfA (RR:=λacc C=>compPost X.M A (liftSX X env nm Y s Z) (some (assign (.Name y py) env)) (λ_ s'=>liftS X env nm Y s Q .next s') acc C) EO L hd IA.at_ F2 (F.len.trans hN) S.ck S.kind IT hSt (λb hb=>⟨(hW b hb).1,(hW b hb).2.1⟩) hI S.tgt S.test S.elt q1 ?_;intro D C s' Y' acc mC hfr hD hC hDC hσD hσC hns hDo a3 st3 q3;have hC0:X.h₀.get? C=none:=(qa IA.at_ hC).2.1;have hD0:X.h₀.get? D=none:=(qa IA.at_ hD).2.1;have hCfr:C∉X.fr:=zfE IA.at_ hC;refine zm hDo λys n hDo rys hacc=>?_;refine zj (zpY hDo rys hacc a3 st3 hσD hD0 hfr hD q3) λav ao r1 a3 st3 q3=>?_;have hCσ:(Y'.set D ao) C=none:=by rw[AHeap.wB _ _ (Ne.symm hDC)];exact hσC
  generalize Y'.set D ao=Y3 at r1 a3 st3 q3 hCσ;have noW:NoStay W s2.heap:=λb o hb e=>by refine zh (IT.there 0 _ _ b hSt hb) λo' e' h' _=>?_;rw[e] at e';obtain rfl:=Hy e';exact h'
  have dis:∀b,FB env b->¬W b:=λb hb hw=>absurd (FB.lt F1 hb) (pQ.mpr (hW b hw).2.2);have F3:=F2.stepB IA.at_ st3 dis noW;refine wpAny_assign_Name (zfb EO F3 a3 hy hky r1 λs4 F4 a4 st4=>?_);have hCF:¬FB env C:=λhb=>absurd (FB.lt F2 hb) (pQ.mpr hC);refine jt (id hns) λoC es ep hoC hdC hr=>?_;obtain⟨sl,hoC4⟩:=st4.keepD C oC hoC hCσ hCF;refine zc mC (ky _ es ep hoC4 hdC hr) (λh' hs'=>?_);have nC:∀o,s4.heap.get? C=some o->¬qL o:=λo ho=>by rw[hoC4] at ho;obtain rfl:=Hy ho;exact zbj hdC
  have a5:At X Y3 { s4 with heap:=h' }:=a4.aside (t:=s4.toks) (h':=h') hCσ hC0 nC (λq=>absurd q hCfr) hs';have st5:Step (λb=>b=C) Y3 s4 Y3 { s4 with heap:=h' }:=Step.aside (t:=s4.toks) (h':=h') rfl hs';have F5:=F4.stepB a4 st5 (λb hb e=>hCF (e▸hb)) (λb o hb e=>by subst hb;exact nC o e);have stA:Step (λb=>FB env b\/s1.heap.objs.size<=b) Y1 s1 Y3 { s4 with heap:=h' }:=by
   have x1:Step (λb=>FB env b\/s1.heap.objs.size<=b) Y1 s1 Y1 s2:=IA.step.weaken λb hb=>hb.elim;have x2:Step (λb=>FB env b\/s1.heap.objs.size<=b) Y1 s2 Y3 s':=st3.weaken λb hb=>.inr (hW b hb).2.2;have x3:Step (λb=>FB env b\/s1.heap.objs.size<=b) Y3 s' Y3 s4:=st4.weaken λb hb=>.inl hb;have x4:Step (λb=>FB env b\/s1.heap.objs.size<=b) Y3 s4 Y3 { s4 with heap:=h' }:=st5.weaken λb hb=>.inr (by rw[hb];exact fE IA.step.size hC);exact x1.trans (x2.trans (x3.trans x4))
  exact zH .next _ _ trivial a5 F5 ((st1.weaken FB.wP).trans (stA.drop λb hb=>hb)) q3
end
section
open PySem.MeetsSeq
abbrev zaZ:=List AV->List AV->(AV->List AV->Prop)->Prop
def qz(X:Cx)(id:String)(m:zaZ):Prop:=
 ∀d A Y s p xs as vs (Q:zl) E,Live X d A->At X Y s->RepVs Y s.heap as vs->Y p=some (.list xs)->m xs as (λv ys=>Q v ((vis Y).set p (.list ys)))->wpAny X.M A (PySem.call (.builtin id) (.ref p::vs)) (liftQ X Y s Q) E s
def zpm(v:AV)(K:Addr->Prop):Prop:=match v with
 | .ref p=>K p
 | _=>False
theorem ziE{v:AV}{K:Addr->Prop}(h:zpm v K):∃p,v = .ref p/\K p:=by
 cases v with
 | ref p=>exact⟨p,rfl,h⟩
 | _=>exact h.elim
def zbZ(Y:AHeap)(p:Addr)(K:List AV->Prop):Prop:=zt ((Y p).bind AO.vB) K
theorem zk{Y:AHeap}{p:Addr}{xs:List AV}{K:List AV->Prop}(h:Y p=some (.list xs))(q:K xs):zbZ Y p K:=by unfold zbZ;rw[h];exact q
theorem zfU{Y:AHeap}{p:Addr}{K:List AV->Prop}(h:zbZ Y p K):∃xs,Y p=some (.list xs)/\K xs:=by
 refine zb (zg h) λxs h1 q=>?_;refine zb (pT.mp h1) λo h2 h3=>?_;cases o with
 | list ys=>cases h3;exact⟨_,h2,q⟩
 | _=>cases h3
namespace A
def wW(p:Addr)(Q:zl)(Y2:AHeap)(v:AV)(ys:List AV):Prop:=Q v (Y2.set p (.list ys))
def vE(m:zaZ)(p:Addr)(Q:zl):List AV->AHeap->Prop:=λas Y2=>zbZ Y2 p λxs=>m xs as (wW p Q Y2)
def zuC(m:zaZ)(args:List AE)(d:Dp)(l:Loc)(Q:zl)(Z:XP):zl:=λr Y1=>zpm r λp=>zbZ Y1 p λ_=>za7 args d l (vE m p Q) Z Y1
def meth(m:zaZ)(x:AE)(args:List AE):AE:=λd l Q Z Y=>x d l (zuC m args d l Q Z) Z Y
def kEx(l:Loc)(S:zT):zl:=λ_ Y'=>S .next l Y'
def ex(x:AE):AS:=λd l S SZ Y=>x d l (kEx l S) (kZ SZ l) Y
end A
section
variable{X:Cx}{env:Env}{nm:List (Str×Nat)}
theorem zkM{o:Expr}{name:Str}{id:String}{x:AE}{es:List Expr}{ms:List AE}{m:zaZ}{apos pos:Pos}(slot:Slot "list" name id)(hty:typeOf (.builtin id)=pure (.type "method_descriptor"))(hm:qz X id m)
  (hb:∀e,attributeBase o name e (eval o e)=eval o e)(hl:(apos.endLine==pos.line)=true)(hn:decide (es.length<30)=true)(hx:zi X env nm o x)(h:SoundEs X env nm es ms) :
  zi X env nm (.Call (.Attribute o name apos) es [] pos) (A.meth m x ms):=λd A l Y s Q Z L a F q=>by
 refine wpAny_Call_method (hb env) ?_ hl PySem.F.plainAttrs_list slot hty ?_
 .have h1:(backTo pos (starEach es env)).all (λx=>!x.1)=true:=by
   rw[List.all_eq_not_any_not];simp only[Bool.not_not];rw[h.plain];rfl
  rw[h1];show (true&&true&&decide (es.length+0+0<30))=true
  simpa using hn
 refine Ha (hx d A l Y s _ _ L a F q) (λv s1 hpx=>?_) λ_ _ x=>x;refine zj hpx λav Y1 r a1 st q1=>?_;refine zb (ziE q1) λp e3_1 q1=>?_;subst e3_1;refine zb (zfU q1) λxs hp q1=>?_;obtain rfl:=RepV.wM r;refine js (a1.rep _ _ (zG hp).1) λvs n ho _=>?_;refine zo (zc _ ho rfl) (λb e=>by cases e;exact(zc _ ho rfl)) ?_;refine Calls.callWith_builtin h.plain (Ha (qH h L a1 (F.step a st) q1 λvs s2 hpx=>?_) (λ_ _ x=>x) λ_ _ x=>x.back st);refine zj hpx λavs Y2 r2 a2 st2 q2=>?_;refine zb (zfU q2) λys hp2 q3=>?_;exact j4 (st.trans st2) (hm d A Y2 s2 p ys avs vs Q _ L a2 r2 (zG hp2).1 q3)
theorem zpR{e:Expr}{pos:Pos}{m:AE}(EO:EnvOk env)(h:zi X env nm e m)(hs:swapsWith e none pos.line env=pure false):jr X env nm (.Expr e pos) (A.ex m):=λd A l Y s Q Z L a F q=>by
 rw[exec_Expr env e pos (by unfold interactive;rw[EO.kind];rfl) hs];refine G8 (Hi (G8 (Ha (h d A l Y s _ _ L a F q) (λv s1 hpz=>zj hpz λav Y1 r a1 st q1=>wpAny_dropValue ?_) λ_ _ x=>x.toS a F)));exact zH .next l Y1 trivial a1 (F.step a st) (st.weaken FB.wP) q1
def zQ:zaZ:=λxs as K=>zat as λv=>zdK (xs.length+1) (K .none (xs++[v]))
def zq8:zaZ:=λxs as K=>match as with
 | []=>zt xs.getLast? λv=>K v xs.dropLast
 | _::_=>zat as λk=>zt k.int? λi=>onB (decide (0<=i)) (zt xs[i.toNat]? λv=>K v (xs.eraseIdx i.toNat))
theorem RepVs.eraseIdx{Y:AHeap}{h:Heap}{xs:List AV}{vs:List Value}(r:RepVs Y h xs vs):∀n,RepVs Y h (xs.eraseIdx n) (vs.eraseIdx n):=by
 induction xs generalizing vs with
 | nil=>intro n;obtain rfl:=RepVs.wG r;exact .nil
 | cons x xs ih=>
  obtain⟨_,_,rfl,a,r⟩:=RepVs.wF r;intro n;cases n with
  | zero=>exact r
  | succ n=>exact .cons a (ih r n)
theorem zqQ{h:Heap}{p:Addr}{us ws:List Value}{n:Nat}(ho:h.get? p=some (zS us n))(f:Array Value->Array Value)(e:f us.toArray=ws.toArray):∃n',(h.update p (Obj.mapSeq f)).get? p=some (zS ws n'):=by
 have:=IsL.update ho f;rw[e] at this;exact⟨_,this⟩
theorem zca{Y:AHeap}{s:Shared}{p:Addr}{xs ys:List AV}{us ws:List Value}{n:Nat}{Q:zl}{x:AV}{v:Value}(a:At X Y s)(hp:Y p=some (.list xs))(ho:s.heap.get? p=some (zS us n))(f:Array Value->Array Value)(e:f us.toArray=ws.toArray)(rw_:RepVs Y s.heap ys ws)(hl:ys.length<=1000000)(rx:RepV Y s.heap x v)
  (q:Q x ((vis Y).set p (.list ys))):liftQ X Y s Q v { s with heap:=s.heap.update p (Obj.mapSeq f) }:=by
 have hs:Heap.SameBut p s.heap (s.heap.update p (Obj.mapSeq f)):=Heap.SameBut.update ..;obtain⟨n',hn'⟩:=zqQ (ws:=ws) ho f e;have a':=a.store (ao:=.list ys) (t:=s.toks) hp rfl hs λkv=>(zN ws n' hn' (rw_.mono kv) hl)
 have st:Step E0 Y s (Y.set p (.list ys)) { s with heap:=s.heap.update p (Obj.mapSeq f) }:=Step.store (t:=s.toks) hp rfl hs;exact zq x _ (rx.mono (st.keepV0 a)) a' st (by rw[jF rfl];exact q)
theorem zhj:qz X "list.append" zQ:=λd A Y s p xs as vs Q E L a r hp q=>by
 refine zb (jz q) λv0 e10_1 q=>?_;subst e10_1;obtain⟨hl,q⟩:=qZ q;refine zb (qt r) λv e12_1 rv=>?_;subst e12_1;refine zm (a.rep _ _ hp) λus n ho ru _=>?_;have hsz:us.toArray.size<=sizeLine:=by rw[gB,<-ru.length,Hc];exact zyu hl
 refine call_meets PySem.F.slot_list_append (zc _ ho rfl) PySem.F.entry_list_append (PySem.F.args_list_append_2 _ _) (list_append p us.toArray n v hsz) ⟨ho,?_⟩;exact zca (ws:=us++[v]) a hp ho _ (by simp) (ru.append (.cons rv .nil)) (by rw[fF];exact hl) .none q
theorem zfY{d:Dp}{A:Around}{Y:AHeap}{s:Shared}{p:Addr}{xs:List AV}{us:List Value}{n k:Nat}{x:AV}{v:Value}{Q:zl}(a:At X Y s)(hp:Y p=some (.list xs))(ho:s.heap.get? p=some (zS us n))(ru:RepVs Y s.heap xs us)(hl:xs.length<=1000000)(hx:xs[k]? = some x)(rx:RepV Y s.heap x v)(q:Q x ((vis Y).set p (.list (xs.eraseIdx k)))) :
  liftQ X Y s Q v { s with heap:=s.heap.update p (Obj.mapSeq λx=>x.eraseIdxIfInBounds k) }:=by
 have hk:k<us.length:=by rw[<-ru.length];exact(fW.mp hx).1
 exact zca (ws:=us.eraseIdx k) a hp ho _ (by simp[Array.eraseIdxIfInBounds,hk]) (ru.eraseIdx k) (by have:=List.length_eraseIdx_le xs k;exact zAk hl this) rx q
theorem znx:qz X "list.pop" zq8:=λd A Y s p xs as vs Q E L a r hp q=>by
 refine zm (a.rep _ _ hp) λus n ho ru hl=>?_;have hsz:us.toArray.size<=sizeLine:=by rw[gB,<-ru.length,Hc];exact zht hl
 cases as with
 | nil=>
  refine zb (zg q) λx hx q1=>?_;obtain rfl:=RepVs.wG r;have hx':xs[xs.length-1]? = some x:=by rw[<-List.getLast?_eq_getElem?];exact hx
  refine zb (ru.get hx') λy hy ry=>?_;have hy':us.toArray[us.toArray.size-1]? = some y:=by rw[gB,<-ru.length];simpa using hy
  refine call_meets PySem.F.slot_list_pop (zc _ ho rfl) PySem.F.entry_list_pop (PySem.F.args_list_pop_1 _) (list_pop_last p us.toArray n y hy' hsz) ⟨ho,?_⟩;have e:us.toArray.size-1=xs.length-1:=by rw[gB,ru.length]
  rw[e];refine zfY (d:=d) (A:=A) a hp ho ru hl hx' ry ?_;rw[List.eraseIdx_length_sub_one];exact q1
 | cons i0 as=>
  have q:zat (i0::as) λk=>zt k.int? λi=>onB (decide (0<=i)) (zt xs[i.toNat]? λv=>Q v ((vis Y).set p (.list (xs.eraseIdx i.toNat)))):=q;refine zb (jz q) λkv e q1=>?_;refine zb (zg q1) λi hi q2=>?_;obtain⟨h0,q3⟩:=qG q2;refine zb (zg q3) λx hx q4=>?_;have hi:=jp hi;rw[e,hi] at r;refine zb (qt r) λv e21_1 rv=>?_;subst e21_1;obtain⟨t,rfl⟩:∃t,v = .int i t:=by obtain⟨_,rfl⟩:=RepV.wD rv;exact⟨_,rfl⟩
  obtain⟨k,hki⟩:∃k:Nat,i.toNat=k:=⟨_,rfl⟩
  rw[hki] at hx q4;refine zb (ru.get hx) λy hy ry=>?_;have hk:k<us.length:=(fW.mp hy).1;have hkl:us.length<=1000000:=by rw[<-ru.length];exact hl
  have hik:i=k:=by lia
  have f1:Builtin.List.listFitsIndex i=true:=by
   unfold Builtin.List.listFitsIndex;rw[H0 (by lia),H0 (by lia)];rfl
  have f2:seqIndex? i us.toArray.size=some k:=by
   rw[hik];have e0:¬((k:Int)<0):=by exact zzn
   simp[seqIndex?,e0,hk]
  have f3:us.toArray[k]? = some y:=by simpa using hy
  have meets:=list_pop_at p us.toArray n i t k y f1 f2 f3 hsz;refine call_meets PySem.F.slot_list_pop (zc _ ho rfl) PySem.F.entry_list_pop (PySem.F.args_list_pop_2 _ _) meets ⟨ho,?_⟩;exact zfY (d:=d) (A:=A) a hp ho ru hl hx ry q4
end
end
@[irreducible] noncomputable def zrb(xs:List AV)(Q:zl)(Y:AHeap):Prop:=∃ns:List Int,xs=ns.map .int/\ns≠[]/\∀M,M∈ns->(∀a∈ns,a<=M)->Q (.int M) Y
@[irreducible] noncomputable def zrd(xs:List AV)(Q:zl)(Y:AHeap):Prop:=∃ns:List Int,xs=ns.map .int/\ns≠[]/\∀M,M∈ns->(∀a∈ns,M<=a)->Q (.int M) Y
@[irreducible] noncomputable def zru(xs:List AV)(Q:zl)(Y:AHeap):Prop:=∃ns:List Int,xs=ns.map .int/\PySem.SumFits ns/\Q (.int ns.sum) Y
def zpr:zbK:=λ_ as Q Y=>match as with
 | []=>False
 | x::r=>match r with
  | []=>zt (jf Y x) λxs=>zrb xs Q Y
  | _::_=>zat r λy=>kz x y λi j=>Q (.int (max i j)) Y
def zki:zbK:=λ_ as Q Y=>match as with
 | []=>False
 | x::r=>match r with
  | []=>zt (jf Y x) λxs=>zrd xs Q Y
  | _::_=>zat r λy=>kz x y λi j=>Q (.int (min i j)) Y
def zm3:zbK:=λ_ as Q Y=>zat as λx=>zt (jf Y x) λxs=>zru xs Q Y
def zrh:zbK:=λ_ as Q Y=>zat as λx=>zt x.bool? λb=>Q (.int (if b then 1 else 0)) Y
def zbm:zbK:=λ_ as Q Y=>zat as λx=>zt (jf Y x) λxs=>Q (.tup xs) Y
section
variable{X:Cx}{Y:AHeap}{s:Shared}
theorem zb2{h:Heap}{ns:List Int}{vs:List Value}(r:RepVs Y h (ns.map .int) vs):∃xs:List (Int×Tok),vs.toArray=intItems xs.toArray/\xs.map (·.1)=ns:=by
 induction ns generalizing vs with
 | nil=>cases r;exact⟨[],by simp[intItems],rfl⟩
 | cons n ns ih=>
  cases r with
  | cons a r=>
   obtain⟨t,rfl⟩:=RepV.wD a;refine zb (ih r) λxs e1 e2=>?_;refine zc ((n,t)::xs) ?_ (by simp[e2]);simp[intItems] at e1 ⊢;exact e1
theorem za8{h':Heap}{tk t:Nat}{i:Int}{Q:zl}(a:At X Y s)(hk:∀b o,s.heap.get? b=some o->h'.get? b=some o)(hsz:s.heap.objs.size<=h'.objs.size)(q:Q (.int i) (vis Y)):liftQ X Y s Q (.int i t) { s with heap:=h',toks:=tk }:=(zq _ Y (.int _ _) (a.grown tk hk) (.grown Y tk hk hsz) q)
theorem zh8{x y:AV}{K:Int->Int->Prop}(h:kz x y K):∃i j,x = .int i/\y = .int j/\K i j:=by
 refine zb (zg h) λi h1 q=>?_;refine zb (zg q) λj h2 q=>?_;exact zN i j (jp h1) (jp h2) q
theorem zi9{h:Heap}{x y:AV}{vs:List Value}{i j:Int}(r:RepVs Y h [x,y] vs)(h1:x = .int i)(h2:y = .int j):∃t u,vs=[.int i t,.int j u]:=by
 subst h1;subst h2;refine zm (zpy r) λv w e4_2 rv rw_=>?_;subst e4_2;obtain⟨_,rfl⟩:=RepV.wD rv;obtain⟨_,rfl⟩:=RepV.wD rw_;exact jy _ _ rfl
theorem zns:jg X (.builtin "max") zpr:=λd A Y s r as vs Q E L hd a rv q=>by
 cases as with
 | nil=>exact q.elim
 | cons x as=>
  cases as with
  | cons y as=>
   have q:zat (y::as) λy=>kz x y λi j=>Q (.int (max i j)) (vis Y):=q;refine zb (jz q) λz e q1=>?_;refine zm (zh8 q1) λi j h1 h2 q2=>?_;rw[e] at rv;refine z9 (zi9 rv h1 h2) λt u e9_2=>?_;subst e9_2;refine zM (max_two_ints (L.handled hd) λh' tk hk hsz=>?_)
   by_cases h:j>i
   .rw[if_pos h];rw[fC3 (y59 h)] at q2;exact za8 a hk hsz q2
   .rw[if_neg h];rw[fDA (y60 h)] at q2;exact za8 a hk hsz q2
  | nil=>
   refine zb (zg q) λys hx q1=>?_;refine zb (qt rv) λv e11_1 rv1=>?_;subst e11_1;refine zv (a.isList (ja hx) rv1) λp us e12_2 _ hl rs _=>?_;subst e12_2;unfold zrb at q1;refine zh q1 λns e13_1 hne q2=>?_;subst e13_1;refine zb (zb2 rs) λxs e1 e2=>?_;rw[e1] at hl;have hx:0<xs.length:=by rw[<-e2] at hne;cases xs<;>simp_all
   refine zM (max_intList (L.handled hd) hl (by simpa using hx) λv h' tk hv hk hsz=>?_);obtain⟨t,rfl⟩:=intItems_at hv;obtain⟨h1,h2⟩:=argBest_gt (numAt xs.toArray) (xs.toArray.size-1);have e3:(xs.toArray.toList.map (·.1))=ns:=e2;refine za8 a hk hsz (q2 _ ?_ λb hb=>?_)
   .rw[numAt_eq,e3];exact PySem.getD_mem (by rw[<-e3,fC,pA];simp at h1 ⊢;exact zwi hx h1)
   .rw[<-e3] at hb;refine zb (PySem.mem_getD hb) λj hj e17_2=>?_;subst e17_2;rw[fC,pA] at hj;rw[<-numAt_eq];exact h2 j (zrO hj)
theorem znt:jg X (.builtin "min") zki:=λd A Y s r as vs Q E L hd a rv q=>by
 cases as with
 | nil=>exact q.elim
 | cons x as=>
  cases as with
  | cons y as=>
   have q:zat (y::as) λy=>kz x y λi j=>Q (.int (min i j)) (vis Y):=q;refine zb (jz q) λz e q1=>?_;refine zm (zh8 q1) λi j h1 h2 q2=>?_;rw[e] at rv;refine z9 (zi9 rv h1 h2) λt u e20_2=>?_;subst e20_2;refine zM (min_two_ints (L.handled hd) λh' tk hk hsz=>?_)
   by_cases h:j<i
   .rw[if_pos h];rw[fB8 (y55 h)] at q2;exact za8 a hk hsz q2
   .rw[if_neg h];rw[fCG (y62 h)] at q2;exact za8 a hk hsz q2
  | nil=>
   refine zb (zg q) λys hx q1=>?_;refine zb (qt rv) λv e22_1 rv1=>?_;subst e22_1;refine zv (a.isList (ja hx) rv1) λp us e23_2 _ hl rs _=>?_;subst e23_2;unfold zrd at q1;refine zh q1 λns e24_1 hne q2=>?_;subst e24_1;refine zb (zb2 rs) λxs e1 e2=>?_;rw[e1] at hl;have hx:0<xs.length:=by rw[<-e2] at hne;cases xs<;>simp_all
   refine zM (min_intList (L.handled hd) hl (by simpa using hx) λv h' tk hv hk hsz=>?_);obtain⟨t,rfl⟩:=intItems_at hv;obtain⟨h1,h2⟩:=argBest_lt (numAt xs.toArray) (xs.toArray.size-1);have e3:(xs.toArray.toList.map (·.1))=ns:=e2;refine za8 a hk hsz (q2 _ ?_ λb hb=>?_)
   .rw[numAt_eq,e3];exact PySem.getD_mem (by rw[<-e3,fC,pA];simp at h1 ⊢;exact zwi hx h1)
   .rw[<-e3] at hb;refine zb (PySem.mem_getD hb) λj hj e28_2=>?_;subst e28_2;rw[fC,pA] at hj;rw[<-numAt_eq];exact h2 j (zrO hj)
theorem znA:jg X (.builtin "sum") zm3:=λd A Y s r as vs Q E L hd a rv q=>by
 refine zb (jz q) λx e29_1 q=>?_;subst e29_1;refine zb (zg q) λys hx q1=>?_;refine zb (qt rv) λv e31_1 rv1=>?_;subst e31_1;refine zv (a.isList (ja hx) rv1) λp us e32_2 _ hl rs _=>?_;subst e32_2;unfold zru at q1;refine zh q1 λns e33_1 hf q2=>?_;subst e33_1;refine zb (zb2 rs) λxs e1 e2=>?_;rw[e1] at hl;have e3:(xs.toArray.toList.map (·.1))=ns:=e2;have e4:ns.length=xs.toArray.size:=by rw[<-e3];simp
 refine zM (sum_intList (L.handled hd) hl (λj hj=>?_) λh' tk t' hk hsz=>?_)
 .rw[numAt_eq,preSum_eq,e3];exact hf j (by rw[e4];exact hj)
 .rw[preSum_eq,e3,fBC (by rw[e4];exact fN _)];exact za8 a hk hsz q2
theorem zkK:jg X (.type "int") zrh:=λd A Y s r as vs Q E L hd a rv q=>by
 refine zb (jz q) λx e35_1 q=>?_;subst e35_1;refine zb (zg q) λb hb q=>?_;have hb:=za4 hb;subst hb;refine zm (RepVs.wF rv) λ_ _ e37_2 r1 r2=>?_;subst e37_2;obtain rfl:=RepVs.wG r2;obtain rfl:=RepV.wN r1;exact call_int_bool (kU a (.int _ _) q)
theorem ziZ:jg X (.type "tuple") zbm:=λd A Y s r as vs Q E L hd a rv q=>by
 refine zb (jz q) λx e38_1 q=>?_;subst e38_1;refine zb (zg q) λys hx q1=>?_;refine zb (qt rv) λv e40_1 rv1=>?_;subst e40_1;refine zv (a.isList (ja hx) rv1) λp us e41_2 _ hl rs hm=>?_;subst e41_2;refine zM (call_tuple_list hl (λh' hk hsz=>?_) (by rw[gB,<-rs.length,Hc];exact zht hm));have hk':∀b o,s.heap.get? b=some o->(h'.push { cls:=.type "tuple",data:=.seq us.toArray }).get? b=some o:=λb o e=>Heap.get?_push_of_some _ (hk b o e);exact zq (.tup ys) Y (.tup hm (qn _ (Heap.get?_push_size _ rfl) rfl 0 rfl) (rs.mono (.ext hk'))) (a.grown s.toks hk') (.grown Y s.toks hk' hsz) q1
end
section
open PySem.MeetsSeq
def ztl:zbK:=λ_ as Q Y=>zat as λx=>zt x.int? λi=>Q (.int (i.natAbs:Int)) Y
def zdP:zaZ:=λxs as K=>zat as λv=>zt v.tup? λys=>zdK (xs.length+ys.length) (K .none (xs++ys))
noncomputable def zsP(n:Nat)(k:Nat):List AV->Option Nat
 | []=>none
 | x::xs=>x.str?.bind λm=>match Nat.beq m n with
  | true=>some k
  | false=>zsP n (k+1) xs
def zj3:zaZ:=λxs as K=>zat as λv=>zt v.str? λn=>onB (xs.all λx=>x.str?.isSome) (zt (zsP n 0 xs) λk=>K (.int (k:Int)) xs)
def RdA(x:AV)(d:PyData):Prop:=∀Y,Rd Y x d
@[irreducible] noncomputable def rmG(xs:List AV)(v:AV)(K:AV->List AV->Prop):Prop:=∃pre w post d e,xs=pre++w::post/\RdA v d/\RdA w e/\PyData.eqv e d=true/\e.depth<=100/\(∀x∈pre,∃dx,RdA x dx/\PyData.eqv dx d=false/\dx.depth<=100)/\K .none (pre++post)
def zgU:zaZ:=λxs as K=>zat as λv=>rmG xs v K
section
variable{X:Cx}
theorem zne:jg X (.builtin "abs") ztl:=λd A Y s r as vs Q E L hd a rv q=>by
 obtain⟨x,rfl,q⟩:=jz q;obtain⟨i,hi,q⟩:=zg q;have hi:=jp hi;subst hi;obtain⟨v,rfl,rv1⟩:=qt rv;obtain⟨_,rfl⟩:=RepV.wD rv1;refine call_abs_int λu tk=>?_;have e:(if i<0 then -i else i)=(i.natAbs:Int):=by split<;>lia
 rw[e];exact kU a (.int _ _) q
theorem zjH(l:Addr)(items:Array Value)(n:Nat)(b:Addr)(items2:Array Value)(n2:Nat)(dd:Option Addr)(sl:Array (Option Value))(hs0:¬(!items.isEmpty&&Builtin.List.listTooLong (items.size+items2.size))=true)(hs1:items.size<=sizeLine)(hs2:items.size+items2.size<=sizeLine+1) :
  Meets (Builtin.«list.extend» ⟨[.ref l,.ref b],[]⟩) (λ_ R s=>s.heap.get? l=some { cls:=.type "list",dict:=none,data:=.seq items n,slots:=#[] }/\s.heap.get? b=some { cls:=.type "tuple",dict:=dd,data:=.seq items2 n2,slots:=sl }/\R (.ok (.ret Value.none)) { s with heap:=s.heap.update l (Obj.mapSeq λx=>x++items2),toks:=s.toks }):=
 .of_wp λprog w A R s h=>by
  obtain⟨hp,g,d,tk,os⟩:=s;obtain⟨hl,hb,h⟩:=h;have f2:=AutoSeq1.sub_tuple_tuple;have f3:=AutoSeq1.sub_list_list;have f4:=AutoSeq1.sub_tuple_list;have f5:=AutoSeq1.sub_list_tuple;have hz':(items++items2).size<=sizeLine+1:=by rw[Array.size_append];exact hs2
  wp_walk using (wpAny_updateSeq hl rfl (hz:=hs1) (_hz':=hz')),AutoSeq1.wpAny_loadPart' hl,AutoSeq1.wpAny_loadPart' hb
  exact zc _ rfl h
theorem zhk:qz X "list.extend" zdP:=λd A Y s p xs as vs Q E L a r hp q=>by
 obtain⟨v0,rfl,q⟩:=jz q;obtain⟨ys,hy,q⟩:=zg q;have hy:=zlT hy;subst hy;obtain⟨hl2,q⟩:=qZ q;obtain⟨v,rfl,rv⟩:=qt r;obtain⟨us,n,ho,ru,hl⟩:=a.rep _ _ hp;have hsz:us.toArray.size<=sizeLine:=by rw[gB,<-ru.length,Hc];exact zht hl
 obtain⟨t,ws,rfl,hlt,ht,rs⟩:=RepV.wH rv;obtain⟨⟨c,dd,dt,sl⟩,hot,hc,nt,hd⟩:=ht;have hc:c = .type "tuple":=hc;have hd:dt = .seq ws.toArray nt:=hd;subst hc hd;have hs0:¬(!us.toArray.isEmpty&&Builtin.List.listTooLong (us.toArray.size+ws.toArray.size))=true:=by
  rw[gB,gB,<-ru.length,<-rs.length];unfold Builtin.List.listTooLong;have:=Hc;simp
  lia
 have hs2:us.toArray.size+ws.toArray.size<=sizeLine+1:=by rw[gB,gB,<-ru.length,<-rs.length,Hc];exact zzK hl2
 refine call_meets PySem.F.slot_list_extend (zc _ ho rfl) PySem.F.entry_list_extend (PySem.F.args_list_extend_2 _ _) (zjH p us.toArray n t ws.toArray nt dd sl hs0 hsz hs2) (zo ho hot ?_);exact zca (ws:=us++ws) a hp ho _ (by simp) (ru.append rs) (by rw[fF];exact hl2) .none q
theorem zmw{n:Nat}{xs:List AV}:∀{k j:Nat},zsP n k xs=some j->∃i,j=k+i/\xs[i]? = some (.str n)/\∀m,m<i->∃m',xs[m]? = some (.str m')/\m'≠n:=by
 induction xs with
 | nil=>intro k j h;cases h
 | cons x xs ih=>
  intro k j h;obtain⟨m,hm,h'⟩:=pT.mp h;clear h;have hm:=zhn hm;subst hm;have h:=h';clear h';cases hb:Nat.beq m n with
  | true=>
   rw[hb] at h;obtain rfl:=Hy h;have:=Nat.eq_of_beq_eq_true hb;subst this;exact zr 0 rfl rfl (λ_ h=>absurd h (fBT _))
  | false=>
   rw[hb] at h;obtain⟨i,h1,h2,h3⟩:=ih h;refine zr (i+1) (zBh h1) h2 (λm' hm'=>?_);cases m' with
   | zero=>exact zc m rfl (Nat.ne_of_beq_eq_false hb)
   | succ m'=>exact h3 m' (zzC hm')
theorem zks{Y:AHeap}{h:Heap}{xs:List AV}{vs:List Value}(r:RepVs Y h xs vs)(hs:(xs.all λx=>x.str?.isSome)=true):∀v∈vs,∃m t,v = .str (zy m) t:=by
 induction xs generalizing vs with
 | nil=>obtain rfl:=RepVs.wG r;intro v hv;cases hv
 | cons x xs ih=>
  rw[List.all_cons,gX] at hs;obtain⟨_,_,rfl,a,r⟩:=RepVs.wF r;intro v hv
  rcases fJ.mp hv with rfl|hv
  .cases a with
   | str hn t=>exact jy _ _ rfl
   | _=>cases hs.1
  .exact ih r hs.2 v hv
noncomputable def zu0(n:Str)(v:Value):Bool:=match v with
 | .str x _=>decide (x=n)
 | _=>false
theorem ziU:qz X "list.index" zj3:=λd A Y s p xs as vs Q E L a r hp q=>by
 obtain⟨v0,rfl,q⟩:=jz q;obtain⟨n,hn,q⟩:=zg q;have hn:=zhn hn;subst hn;obtain⟨hal,q⟩:=qG q;obtain⟨k,hk,q⟩:=zg q;obtain⟨v,rfl,rv⟩:=qt r;obtain⟨us,c,ho,ru,hl⟩:=a.rep _ _ hp;obtain⟨i,e,h1,h2⟩:=zmw hk;have e:k=i:=zzV e;subst e;obtain⟨t,rfl,hn⟩:=RepV.wI rv;have hstr:=zks ru hal;obtain⟨w,hw,rw_⟩:=ru.get h1;have hkl:k<us.length:=(fW.mp hw).1;have hll:=ru.length;refine call_meets PySem.F.slot_list_index (zc _ ho rfl) PySem.F.entry_list_index (PySem.F.args_list_index_2 _ _) (list_index p us.toArray c (.str (zy n) t) (zu0 (zy n)) (λy hy=>?_) k (by simpa using hkl) (by lia) ?_ λm hm hmk=>?_) ⟨ho,?_⟩
 .obtain⟨m,u,rfl⟩:=hstr y (by simpa using hy);exact λ_ _ _ _ _ _ h=>wpAny_eqBool_str h
 .have e:us.toArray[k]'(by simpa using hkl)=w:=by simpa using (fW.mp hw).2
  rw[e];cases rw_;exact H0 rfl
 .obtain⟨m',h3,h4⟩:=h2 m hmk;obtain⟨w',hw',rw'⟩:=ru.get h3;have e:us.toArray[m]=w':=by simpa using (fW.mp hw').2
  rw[e];obtain⟨t',rfl,hn'⟩:=RepV.wI rw';exact Hz λe=>h4 (ki hn' hn e)
 .have hset:((vis Y).set p (.list xs))=vis Y:=by
   funext b
   by_cases hb:b=p
   .subst hb;rw[AHeap.wA,zhs hp rfl]
   .rw[AHeap.wB _ _ hb]
  rw[hset] at q;exact kU a (.int _ _) q
theorem zfq(l:Addr)(items:Array Value)(n:Nat)(x:Value)(j:Nat)(hj:j<items.size)(k:Nat)(hs1:items.size<=sizeLine) :
  ∀i:Nat,j-i=k->i<=j->Meets (Builtin.«list.remove.loop» ⟨[.ref l,x,rawInt i],[]⟩)
   (λA R s=>s.heap.get? l=some { cls:=.type "list",dict:=none,data:=.seq items n,slots:=#[] }/\(∀m (hm:m<items.size),m<j->EqAt A.in1 s items[m] x false)/\EqAt A.in1 s items[j] x true/\R (.ok (.ret .none)) { s with heap:=s.heap.update l (Obj.mapSeq λxs=>xs.eraseIdxIfInBounds j) }):=by
 induction k with
 | zero=>
  intro i hk hij prog w A R s h;obtain⟨hp,g,d,tk,os⟩:=s;obtain⟨hl,hno,hit,h⟩:=h;have e:i=j:=zFt hk hij;subst e
  wp_walk using wpAny_loadPart' hl
  have hi:items[((i:Nat):Int).toNat]? = some items[i]:=by simp[hj]
  rw[hi];refine G8 (hit prog w _ _ ?_);have hz':(items.eraseIdxIfInBounds i).size<=sizeLine+1:=fE (size_erased items _) (pP hs1)
  wp_walk using (wpAny_updateSeq hl rfl (hz:=hs1) (_hz':=hz')),wpAny_loadPart' hl
  simpa using h
 | succ k ih=>
  intro i hk hij prog w A R s h;obtain⟨hp,g,d,tk,os⟩:=s;obtain⟨hl,hno,hit,h⟩:=h;have hlt:i<items.size:=zFz hj hij
  wp_walk using wpAny_loadPart' hl
  have hi:items[((i:Nat):Int).toNat]? = some items[i]:=by simp[hlt]
  have hc:((i:Int)+1)=((i+1:Nat):Int):=by push_cast;rfl
  rw[hi];refine G8 (hno i hlt (zwI hk) prog w _ _ ?_)
  wp_walk
  rw[hc];exact⟨plainId_quiet plain_remove_loop _,codeAny_builtin entry_remove_loop (by
   rw[Around.under_plainId plain_remove_loop _];exact ih (i+1) (zwH hk) (zFx hk) prog w A R _ (zp hl hno hit h))⟩
theorem zfl(l:Addr)(items:Array Value)(n:Nat)(x:Value)(j:Nat)(hj:j<items.size)(hs1:items.size<=sizeLine) :
  Meets (Builtin.«list.remove» ⟨[.ref l,x],[]⟩)
   (λA R s=>s.heap.get? l=some { cls:=.type "list",dict:=none,data:=.seq items n,slots:=#[] }/\(∀m (hm:m<items.size),m<j->EqAt A.in1 s items[m] x false)/\EqAt A.in1 s items[j] x true/\R (.ok (.ret .none)) { s with heap:=s.heap.update l (Obj.mapSeq λxs=>xs.eraseIdxIfInBounds j) }):=by
 intro prog w A R s h;obtain⟨hp,g,d,tk,os⟩:=s;obtain⟨hl,h⟩:=h
 wp_walk using wpAny_loadPart' hl
 exact⟨plainId_quiet plain_remove_loop _,codeAny_builtin entry_remove_loop (by
  rw[Around.under_plainId plain_remove_loop _];exact zfq l items n x j hj _ hs1 0 rfl (fX _) prog w A R _ ⟨hl,h⟩)⟩
theorem zhl:qz X "list.remove" zgU:=λd A Y s p xs as vs Q E L a r hp q=>by
 obtain⟨v0,rfl,q'⟩:=jz q;clear q;have q:=q';clear q';unfold rmG at q;obtain⟨pre,w,post,dv,ew,rfl,h1,h2,h3,h4,h5,q⟩:=q;obtain⟨v,rfl,rv⟩:=qt r;obtain⟨us,c,ho,ru,hl⟩:=a.rep _ _ hp;have hsz:us.toArray.size<=sizeLine:=by rw[gB,<-ru.length,Hc];exact zht hl
 have hll:=ru.length;rw[fF,fH] at hll;have hj:pre.length<us.length:=zAS hll;have room:=L.room;obtain⟨⟨as',r1⟩,c1⟩:=(h1 (vis Y)).reads a rv;have at_:∀{m:Nat} {y:AV} {dy:PyData} (hm:m<us.toArray.size),(pre++w::post)[m]? = some y->RdA y dy->dy.depth<=100->EqAt A.in1 s us.toArray[m] v (PyData.eqv dy dv):=λ{m y dy} hm hy rd hd=>by
  obtain⟨u,hu,ry⟩:=ru.get hy;have e:us.toArray[m]=u:=by simpa using (fW.mp hu).2
  rw[e];obtain⟨⟨bs,r2⟩,c2⟩:=(rd (vis Y)).reads a ry;refine eqAt_reads _ _ _ _ _ _ _ _ r2 r1 c2 c1 ?_;have hm:=fDB dy.depth dv.depth;have:A.in1.units<=A.units+1:=by first|exact fN _|exact fBJ _|(unfold Around.in1;simp)
  lia
 refine call_meets PySem.F.slot_list_remove (zc _ ho rfl) PySem.F.entry_list_remove (PySem.F.args_list_remove_2 _ _) (zfl p us.toArray c v pre.length (by simpa using hj) hsz) (zp ho (λm hm hmj=>?_) ?_ ?_)
 .have hy:(pre++w::post)[m]? = some pre[m]:=by rw[pF hmj];exact fU hmj
  obtain⟨dx,k1,k2,k3⟩:=h5 pre[m] (fA8 hmj);rw[<-k2];exact at_ hm hy k1 k3
 .rw[<-h3];refine at_ (y:=w) (by simpa using hj) ?_ h2 h4;rw[pN (fN _),fB0];rfl
 .refine zca (ws:=us.eraseIdx pre.length) (ys:=pre++post) a hp ho _ (by simp[Array.eraseIdxIfInBounds,hj]) ?_ (by rw[fF,fH] at hl;rw[fF];exact zv8 hl) .none q;have:=ru.eraseIdx pre.length;have e:(pre++w::post).eraseIdx pre.length=pre++post:=by
   rw[fBZ (fN _),fB0];rfl
  rw[e] at this;exact this
end
end
structure Gd(X:Cx)(K:Frag):Prop where
 ok:X.Ok
 inn:K.In X.h₀
 bi:∀x:Str,x≠"__name__"->X.mb x=bootBuiltins x
structure EK(env:Env)(names:List (Str×NameKind)):Prop where
 eo:EnvOk env
 nm:env.scope.names=names
noncomputable def zek(names:List (Str×NameKind))(x:Str):Bool:=names.lookup x==some .local||names.lookup x==some .cell
noncomputable def qp(names:List (Str×NameKind))(x:Str):Bool:=names.lookup x==some .globalImplicit&&!(x==("__debug__" : Str))
section
variable{X:Cx}{K:Frag}{env:Env}{nm:List (Str×Nat)}{names:List (Str×NameKind)}
theorem EK.var(E:EK env names){x:Str}(h:zek names x=true):env.kindOf x=some .local\/env.kindOf x=some .cell:=by
 unfold Env.kindOf;rw[E.nm];unfold zek at h
 simpa using h
theorem EK.glob(E:EK env names){x:Str}(h:qp names x=true):env.kindOf x=some .globalImplicit/\(x==("__debug__" : Str))=false:=by
 unfold Env.kindOf;rw[E.nm];unfold qp at h;simp only[gX,beq_iff_eq,fB1] at h;exact h
def zmy(K:Frag)(x:Str)(v:Value):Prop:=nsIn K Hm x=some none/\bootBuiltins x=some v/\x≠"__name__"
theorem Gd.push(G:Gd X K)(L:Env):Gd (X.push L) K:=⟨⟨G.ok.g,G.ok.b,G.ok.nolimit⟩,G.inn,G.bi⟩
theorem Gd.none(G:Gd X K){x:Str}{v:Value}(h:zmy K x v):X.mg x=none:=mg_none_of G.inn G.ok.g h.1
theorem Gd.some(G:Gd X K){x:Str}{v:Value}(h:zmy K x v):X.mb x=some v:=(G.bi x h.2.2).trans h.2.1
noncomputable def zlJ(names ns:List (Str×NameKind)):List (Str×NameKind):=ns.map λ(n,k)=>if (k==NameKind.free&&true&&names.lookup n==some NameKind.cell) then (n,NameKind.cell) else (n,k)
noncomputable def jb(nm:List (Str×Nat)):Nat->List (Str×NameKind)->List (Str×Nat)
 | _,[]=>[]
 | n,(x,.local)::r=>(x,n)::jb nm (n+1) r
 | n,(x,.free)::r=>(match nm.lookup x with|some i=>(x,i)::jb nm n r|none=>jb nm n r)
 | n,_::r=>jb nm n r
noncomputable def zc1(ns:List (Str×NameKind)):Nat:=(ns.filter λp=>p.2==.local).length
noncomputable def zc6:List Str->Bool
 | []=>true
 | x::r=>!r.contains x&&zc6 r
theorem zcy{l:List Str}:zc6 l=true->l.Nodup:=by
 induction l with
 | nil=>exact λ_=>.nil
 | cons x r ih=>
  intro h;have h:=(gX _ _).mp h;exact fQ.mpr ⟨λq=>absurd h.1 (by rw[List.contains_iff_mem.mpr q];exact λe=>nomatch e),ih h.2⟩
noncomputable def zqN:List (Str×Nat)->Bool
 | []=>true
 | p::r=>r.all (λq=>!(q.2==p.2))&&zqN r
theorem zjO{l:List (Str×Nat)}:zqN l=true->∀x y i,(x,i)∈l->(y,i)∈l->x=y:=by
 induction l with
 | nil=>exact λ_ _ _ _ h=>nomatch h
 | cons p r ih=>
  intro h x y i h1 h2;have h:=(gX _ _).mp h;have h3:=fAM.mp h.1
  rcases fJ.mp h1 with e1|h1<;>rcases fJ.mp h2 with e2|h2
  .exact(Prod.mk.inj (e1.trans e2.symm)).1
  .exact absurd (h3 _ h2) (by rw[<-e1];simp)
  .exact absurd (h3 _ h1) (by rw[<-e2];simp)
  .exact ih h.2 x y i h1 h2
noncomputable def zlc(names:List (Str×NameKind))(nm:List (Str×Nat))(N:Nat)(ns:List (Str×NameKind)):Bool:=
 zc6 (ns.map (·.1))&&ns.all (λp=>p.2==.local||p.2==.globalImplicit||(p.2==.free&&names.lookup p.1==some .cell&&(nm.lookup p.1).isSome))&&
 (jb nm N ns).all (λp=>(ns.lookup p.1==some .local&&N<=p.2&&p.2<N+zc1 ns)||(ns.lookup p.1==some .free&&nm.lookup p.1==some p.2))&&zqN (jb nm N ns)&&kC (jb nm N ns++nm)==N+zc1 ns&&
 ns.all (λp=>!(p.2==.free)||(jb nm N ns++nm).lookup p.1==nm.lookup p.1)&&kC (jb nm N ns)==N+zc1 ns
theorem zfz{N:Nat}{ns:List (Str×NameKind)}(h:zlc names nm N ns=true):CompOk names nm N ns (jb nm N ns) (zc1 ns):=by
 unfold zlc at h;simp only[gX,fAM,beq_iff_eq,fDC,decide_eq_true_eq,fB1,beq_eq_false_iff_ne,ne_eq] at h;obtain⟨⟨⟨⟨⟨⟨h1,h2⟩,h3⟩,h4⟩,h5⟩,h6⟩,h7⟩:=h;have nd:=zcy h1;have fr:∀(n:Nat) (l:List (Str×NameKind)) x i,(x,NameKind.free)∈l->nm.lookup x=some i->(x,i)∈jb nm n l:=by
  intro n l
  induction l generalizing n with
  | nil=>intro x i hx;cases hx
  | cons p r ih=>
   intro x i hx hi;obtain⟨y,k⟩:=p
   rcases fJ.mp hx with e|hx'
   .cases e;unfold jb;rw[hi];exact fA
   .clear hx;cases k<;>unfold jb
    all_goals first
     | exact ih _ x i hx' hi
     | exact fB _ (ih _ x i hx' hi)
     | (split<;>first|exact fB _ (ih _ x i hx' hi)|exact ih _ x i hx' hi)
 have nd':∀(l:List (Str×NameKind)) (n:Nat),(l.map (·.1)).Nodup->((jb nm n l).map (·.1)).Nodup/\∀x,x∈(jb nm n l).map (·.1)->x∈l.map (·.1):=by
  intro l
  induction l with
  | nil=>intro n _;exact⟨.nil,λx hx=>by simp[jb] at hx⟩
  | cons p r ih=>
   intro n hn;obtain⟨y,k⟩:=p;have hn':=fQ.mp hn;have stay:∀m,((jb nm m r).map (·.1)).Nodup/\∀x,x∈(jb nm m r).map (·.1)->x∈((y,k)::r).map (·.1):=λm=>⟨(ih m hn'.2).1,λx hx=>fB _ ((ih m hn'.2).2 x hx)⟩
   have more:∀m i,(((y,i)::jb nm m r).map (·.1)).Nodup/\∀x,x∈((y,i)::jb nm m r).map (·.1)->x∈((y,k)::r).map (·.1):=λm i=>
    ⟨fQ.mpr ⟨λq=>hn'.1 ((ih m hn'.2).2 y q),(ih m hn'.2).1⟩,λx hx=>by
     rcases fJ.mp hx with e|hx
     .rw[e];exact fA
     .exact fB _ ((ih m hn'.2).2 x hx)⟩
   cases k<;>unfold jb
   all_goals first
    | exact stay _
    | exact more _ _
    | (split<;>first|exact more _ _|exact stay _)
 refine⟨nd,λx kd hx=>?_,λx i hx=>?_,λx y i hx hy=>zjO h4 x y i (mem_of_lookup hx) (mem_of_lookup hy),h7⟩
 .rcases h2 (x,kd) hx with(q|q)|⟨⟨q1,q2⟩,q3⟩
  .exact .inl q
  .exact .inr (.inl q)
  .obtain⟨i,hi⟩:=fAA.mp q3;simp only at q1;subst q1;exact .inr (.inr (zqM rfl q2 i hi (j9 (nd' _ _ nd).1 (fr _ _ _ _ hx hi))))
 .rcases h3 (x,i) (mem_of_lookup hx) with⟨⟨q1,q2⟩,q3⟩|⟨q1,q2⟩
  .exact .inl (zo q1 q2 q3)
  .exact .inr ⟨q1,q2⟩
theorem EK.comp(E:EK env names){N:Nat}{scope:Scope}(hc:zlc names nm N scope.names=true)(hk:scope.kind = .function)(C:Addr):EK (compEnvC scope (clo env.cells scope.names []) C env) (zlJ names scope.names):=by
 have CK:CompOk env.scope.names nm N scope.names (jb nm N scope.names) (zc1 scope.names):=by rw[E.nm];exact zfz hc
 refine⟨zjF E.eo CK hk C,?_⟩;show List.map _ scope.names=zlJ names scope.names;unfold zlJ;have:∀n,env.kindOf n=names.lookup n:=λn=>by unfold Env.kindOf;rw[E.nm]
 simp only[this,E.eo.kind]
 rfl
theorem EK.stoF(E:EK env names){x:Str}(h:zek names x=true):Sto (FB env) env x:=ztv (E.var h)
theorem EK.loc(E:EK env names){x:Str}(h:(names.lookup x==some .local)=true):env.kindOf x=some .local:=by
 unfold Env.kindOf;rw[E.nm];exact beq_iff_eq.mp h
noncomputable def zkd(names:List (Str×NameKind))(nm:List (Str×Nat))(ps:List Str):Bool:=
 zc6 (names.map (·.1))&&nm.all (λp=>names.lookup p.1==some .local||names.lookup p.1==some .cell)&&zqN nm&&zc6 (nm.map (·.1))&&(nm.take ps.length==ps.zipIdx)&&zc6 ps
theorem zcu{nm:List (Str×Nat)}{x:Str}{i:Nat}(h:(x,i)∈nm):i<kC nm:=by
 unfold kC;have gen:∀(l:List (Str×Nat)) (n:Nat),n<=l.foldl (λn p=>max n (p.2+1)) n/\∀x i,(x,i)∈l->i<l.foldl (λn p=>max n (p.2+1)) n:=by
  intro l
  induction l with
  | nil=>intro n;exact⟨fN _,λ_ _ h=>nomatch h⟩
  | cons p r ih=>
   intro n;rw[pM];have:=ih (max n (p.2+1));refine⟨fE (Nat.le_max_left _ _) this.1,λx i hx=>?_⟩
   rcases fJ.mp hx with e|hx
   .rw[<-e] at this ⊢;exact pI (fCB i) (fE (Nat.le_max_right _ _) this.1)
   .exact this.2 x i hx
 exact(gen nm 0).2 x i h
theorem zke{ps:List Str}(h:zkd names nm ps=true):NamesOk names nm ps (kC nm):=by
 unfold zkd at h;simp only[gX,fAM,beq_iff_eq,fDC] at h;obtain⟨⟨⟨⟨⟨h1,h2⟩,h3⟩,h4⟩,h5⟩,h6⟩:=h;have nd:=zcy h4;have hz:∀(i:Nat) p,ps[i]? = some p->(p,i)∈nm:=λi p hp=>by
  have:(p,i)∈ps.zipIdx:=List.mk_mem_zipIdx_iff_getElem?.mpr hp;rw[<-h5] at this;exact fBL this
 refine⟨zcy h1,λx i hx=>⟨zcu (mem_of_lookup hx),h2 _ (mem_of_lookup hx)⟩,λx y i hx hy=>zjO h3 x y i (mem_of_lookup hx) (mem_of_lookup hy),λx i hx p hp=>zjO h3 p x i (hz i p hp) (mem_of_lookup hx),
  λi p hp=>j9 nd (hz i p hp),?_,rfl,zcy h6⟩
 rcases Nat.eq_zero_or_pos ps.length with e|e
 .rw[e];exact fX _
 .have:(ps[ps.length-1],ps.length-1)∈nm:=hz _ _ (fU (by exact zyS e));have:=zcu this;exact zzM this
theorem zfk{α:Type}{l:List α}{n:Nat}(h:l.length=n+1):∃a r,l=a::r/\r.length=n:=by
 cases l with
 | nil=>simp at h
 | cons a r=>exact zaA a r rfl (by simpa using h)
noncomputable def zgC(K:Frag)(f:Addr):Option FuncData:=(K.lookup f).bind λo=>match o.data with
 | .func fd=>some fd
 | _=>none
theorem zlh{f:Addr}{fd:FuncData}(h:zgC K f=some fd):∃o,K.lookup f=some o/\o.data = .func fd:=by
 refine zb (pT.mp h) λo h1 h2=>?_;refine zc o h1 ?_;split at h2
 .rename_i e;obtain rfl:=Hy h2;exact e
 .exact absurd (Eq.symm h2) (fP _)
end
namespace A
def itR(m:AE):AI:=λd l K Z Y=>w3 d (m d l (λv Y1=>zt (jf Y1 v) λxs=>K Y1 (zbE v xs) xs.reverse) Z Y)
end A
section
variable{X:Cx}{A:Around}{target:Expr}
theorem zoJ(hh:A.handled=none)(it b:Addr)(x:AV)(xs:List AV):ItOk X A target (.ref it) (zbE x xs) xs.reverse (λc=>c=it) (λi Y h=>i<=xs.length/\h.IsRevIter it b ((xs.length:Int)-1-(i:Int))/\stL x b xs Y) where
 stable:=λi Y h Y' h' ⟨h1,⟨o,ho,r⟩,q⟩ kv k=>⟨h1,⟨o,k _ _ rfl ho,r⟩,q.mono kv⟩
 there:=λi Y h c ⟨_,⟨o,ho,hc,hd⟩,_⟩ e=>by subst e;exact⟨o,ho,Plain.wC hc hd (by decide)⟩
 item:=λi x Y s Q Qn E hQn hx a hI hSt hW h=>by
  refine zZ hSt λhile hSt hq=>?_;refine zb (a.ofSt hI hq) λvs hl rv=>?_;have hil:i<xs.length:=by have:=(fW.mp hx).1;rwa [List.length_reverse] at this
  rw[List.getElem?_reverse hil] at hx;refine zb (rv.get hx) λv hv r=>?_;have e:(xs.length:Int)-1-(i:Int)=((xs.length-1-i:Nat):Int):=by omega
  rw[e] at hSt;refine zh (id hSt) λo ho hc hd=>?_;have nW:NoStay (λc=>c=it) s.heap:=λc o' e e'=>by subst e;rw[ho] at e';obtain rfl:=Hy e';exact(Plain.wC hc hd (by decide)).1
  have nd:∀b o,b=it->s.heap.get? b=some o->∀es n,o.data≠.dict es n:=λc o' e e'=>by subst e;rw[ho] at e';obtain rfl:=Hy e';exact(Plain.wC hc hd (by decide)).2.1
  refine wpAny_pyNext_rev_item hSt hl (by simpa using hv) λh' hit' hs'=>hQn v _ ?_;refine zh (id hit') λo' ho' hc' hd'=>?_;have hk:∀c o,¬c=it->s.heap.get? c=some o->h'.get? c=some o:=λc o hc e=>(hs'.2 c hc).trans e;have kv:KeepV Y s.heap Y h':=.mk' λc o' e st=>hk c o' (λq=>nW c o' q e st) e;have e2:((xs.length-1-i:Nat):Int)-1=(xs.length:Int)-1-((i+1:Nat):Int):=by omega
  exact q8 ho' hc' hd' (by decide) (h v { s with heap:=h' } (r.mono kv) (a.moved (t:=s.toks) hW nW nd hk) (Step.moved Y s.toks hk (pC hs'.1.symm)) (zo hil (by rw[<-e2];exact hit') hq))
 done:=λY s Q E a hI hSt hW h=>by
  refine zZ hSt λhile hSt hq=>?_;refine zb (a.ofSt hI hq) λvs hl rv=>?_;have e:(xs.length:Int)-1-(xs.reverse.length:Int) = -1:=by rw[List.length_reverse];omega
  rw[e] at hSt;refine zh (id hSt) λo ho hc hd=>?_;have nW:NoStay (λc=>c=it) s.heap:=λc o' e e'=>by subst e;rw[ho] at e';obtain rfl:=Hy e';exact(Plain.wC hc hd (by decide)).1
  have nd:∀b o,b=it->s.heap.get? b=some o->∀es n,o.data≠.dict es n:=λc o' e e'=>by subst e;rw[ho] at e';obtain rfl:=Hy e';exact(Plain.wC hc hd (by decide)).2.1
  refine zM (wpAny_pyNext_rev_end hh hSt λh' he' hsz=>?_);have hk:∀c o,¬c=it->s.heap.get? c=some o->h'.get? c=some o:=λc o hc e=>he' c o hc e;exact h { s with heap:=h' } (a.moved (t:=s.toks) hW nW nd hk) (Step.moved Y s.toks hk hsz)
 self:=λi Y s Q E hSt h=>wpAny_pyIter_revIter hSt.2.1 h
end
section
variable{X:Cx}{env:Env}{nm:List (Str×Nat)}
theorem zkE{target:Expr}{gp pos:Pos}{e:Expr}{m:AE}(XO:X.Ok)(EO:EnvOk env)(hx:env.kindOf "reversed" = some .globalImplicit)(hn:X.mg "reversed" = none)(hv:X.mb "reversed" = some (.type "reversed"))(hs:jq e=true)(h:zi X env nm e m) :
  za0 X env nm target (.Call (.Name "reversed" gp) [e] [] pos) (A.itR m):=λd A l Y s K Z R E L a F q hE hR=>by
 obtain⟨hd,q⟩:=kL q;refine Call_ (jR XO EO a hx (by decide) hn hv ?_);refine PyProof.Rows.callWith_type ?_ ?_
 .rw[zK hs];rfl
 rw[zK hs];refine Calls.evalArgs_plain ?_;show wpAny X.M A (spliced ((false,eval e env)::[])) _ _ s;refine Calls.spliced_cons (Ha (h d A l Y s _ Z L a F q) (λv s1 hpx=>Calls.spliced_nil ?_) λe s' x=>hE e s' x);refine zj hpx λav Y1 rv a1 st1 q1=>?_;refine zb (zg q1) λxs hx1 q2=>?_;refine zv (zbT a1 hx1 rv) λp vs e11_2 hl rs k1 k2=>?_;subst e11_2;refine call_reversed_list hl ?_;have hit:(s1.heap.push (revObj p ((vs.toArray.size:Int)-1))).IsRevIter s1.heap.objs.size p ((vs.toArray.size:Int)-1):=(zr _ (Heap.get?_push_size _ rfl) rfl rfl)
 refine wpAny_pyIter_revIter hit ?_;refine hR hd Y1 s1 _ _ a1 st1 ⟨(jO _ _ _ _ (zoJ (L.handled hd) s1.heap.objs.size p av xs) (zo (fX _) ?_ k2) (λb hb=>by subst hb;exact qa a1 (fN _)) k1 q2),a1.push _ s1.toks,Step.push Y1 s1 _ s1.toks⟩;have e:(vs.toArray.size:Int)-1=(xs.length:Int)-1-((0:Nat):Int):=by rw[gB,<-rs.length];omega
 rw[<-e];exact hit
end
section
variable{X:Cx}{K:Frag}{Y:AHeap}{s:Shared}{A:Around}{E:Value->Shared->Prop}{Q:zl}
theorem zh9(name:Str):(λe:DictEntry=>e.key.isStr name)=λe=>(strKind X.prog X.w).is name e.key:=by
 funext e
 cases e.key<;>rfl
theorem zhg{h:Heap}{d:Addr}{kvs:List (Str×Value)}(hD:h.DictOf (strKind X.prog X.w) d kvs):∃od es ep,h.get? d=some od/\od={ cls:=.type "dict",data:=.dict es ep }/\StrKeys es/\KeysOf (strKind X.prog X.w) es/\Pairs (strKind X.prog X.w) es.toList kvs/\∀name,lookIn name od=some (valueAt kvs name):=by
 refine ji hD λh0_0 es ep ho h0_4 hd hk hp nd=>?_;obtain⟨c,dd,da,sl⟩:=h0_0;obtain⟨h1,h2,h3⟩:=h0_4;simp only at h1 h2 h3 hd;subst h1 h2 h3 hd;have hs:StrKeys es:=λe he=>by
  refine zb (hk e he) λk h1 _=>?_;obtain⟨t,h2⟩:=Value.isStrOf_shape h1;exact jy k t h2
 refine zbd _ es ep ho rfl hs hk hp (λname=>?_);have hany:es.toList.any (·.refKey)=false:=by
  rw[List.any_eq_false];intro e he;refine z9 (hs e (Array.mem_toList_iff.mp he)) λn t h=>?_;simp[DictEntry.refKey,h]
 have hf:=hp.find name;unfold lookIn;dsimp only;rw[zh9 (X:=X)];cases h:es.toList.find? (λe=>(strKind X.prog X.w).is name e.key) with
 | some e=>rw[h] at hf;rw[<-hf];rfl
 | none=>rw[h] at hf;rw[<-hf,hany];rfl
theorem At.inst{x C dx:Addr}{fs:List (Nat×AV)}(a:At X Y s)(hx:Y x=some (.inst C dx))(hd:Y dx=some (.idict fs)) :
  ∃od:Obj,InstAt s.heap x { cls:=.ref C,dict:=some dx,data:=.plain } C (some od)/\∀n,n<zao->∃r,lookIn (zy n) od=some r/\((kO fs n=none/\r=none)\/∃av v,kO fs n=some av/\r=some v/\RepV Y s.heap av v):=by
 have h1:=a.rep _ _ hx;refine zE (a.rep _ _ hd) λkvs hD sx hl _=>?_;refine ji (zhg hD) λod es ep ho _ _ _ _ hlk=>?_;refine zc od ⟨h1,rfl,rfl,ho⟩ (λn hn=>(zc _ (hlk _) ?_))
 rcases sx.get hn with⟨h2,h3⟩|⟨v,y,h2,h3,r⟩
 .exact .inl ⟨h3,h2⟩
 .exact .inr (zN y v h3 h2 r)
theorem At.instNo{x C dx:Addr}{fs:List (Nat×AV)}{name:Str}(a:At X Y s)(hx:Y x=some (.inst C dx))(hd:Y dx=some (.idict fs))(hn:name∉strT) :
  ∃od:Obj,InstAt s.heap x { cls:=.ref C,dict:=some dx,data:=.plain } C (some od)/\lookIn name od=some none:=by
 have h1:=a.rep _ _ hx;refine zE (a.rep _ _ hd) λkvs hD sx hl _=>?_;refine ji (zhg hD) λod es ep ho _ _ _ _ hlk=>?_;refine zc od ⟨h1,rfl,rfl,ho⟩ ?_;rw[hlk];have:∀{kvs fs},SX Y s.heap kvs fs->valueAt kvs name=none:=by
  intro kvs fs sx
  induction sx with
  | nil=>rfl
  | @cons k x v kvs fs hk _ _ ih=>
   unfold valueAt at ih ⊢;have:¬zy k=name:=λe=>hn (e▸fAB (zbx hk));rw[pX,Hz this];exact ih
 rw[this sx]
theorem zkt{h:Heap}{av:AV}{v:Value}(r:RepV Y h av v):handedIn v=true:=by cases r<;>rfl
theorem zrG{x C dx:Addr}{fs:List (Nat×AV)}{n:Nat}{av:AV}{expr:Bool}(KX:K.In X.h₀)(a:At X Y s)(hx:Y x=some (.inst C dx))(hd:Y dx=some (.idict fs))(hn:n<zao)(hf:kO fs n=some av)
  (hg:plainGet K C (zy n)=true)(hh:hasDictIn K C=true)(hc:findIn K (.ref C) (zy n)=some none)(q:Q av (vis Y)):wpAny X.M A (getAttr (.ref x) (zy n) expr) (liftQ X Y s Q) E s:=by
 refine zb (a.inst hx hd) λod I hl=>?_;refine zb (hl n hn) λr h1 h2=>?_
 rcases h2 with⟨h2,_⟩|⟨av',v,h2,rfl,rv⟩
 .rw[hf] at h2;exact absurd h2 (fP _)
 .rw[hf] at h2;obtain rfl:=Hy h2;exact get_value (KX.keeps a.keep) I (plainGet_of hg).1 (findObj_own hh hc rfl h1) (zkt rv) (zq av Y rv ⟨a.keep,a.rep,a.own,a.gens,a.os,a.ff⟩ (Step.toks ..) q)
theorem zm6{h:Heap}{dx:Addr}{es:Array DictEntry}{n:Nat}{kvs:List (Str×Value)}(ho:h.get? dx=some { cls:=.type "dict",data:=.dict es n })(hk:KeysOf (strKind X.prog X.w) es)(hp:Pairs (strKind X.prog X.w) es.toList kvs)(nd:(kvs.map (·.1)).Nodup)(name:Str)(tk:Tok)(v:Value) :
  ∃es' n',(h.update dx (Obj.putName name (hashStr X.w name) (.str name tk) v)).get? dx=some { cls:=.type "dict",data:=.dict es' n' }/\(h.update dx (Obj.putName name (hashStr X.w name) (.str name tk) v)).DictOf (strKind X.prog X.w) dx (stored kvs name v):=by
 have hkey:(strKind X.prog X.w).is name (.str name tk)=true:=strKind_is _ _ _ _;have hidx:es.findIdx? (·.key.isStr name)=es.toList.findIdx? λe=>(strKind X.prog X.w).is name e.key:=by
  rw[zh9 (X:=X)];obtain⟨l⟩:=es;exact List.findIdx?_toArray _ _
 have hany:kvs.any (λkv=>decide (kv.1=name))=(es.findIdx? (·.key.isStr name)).isSome:=by
  rw[hidx,hp.findIdx name,List.findIdx?_isSome]
 cases hi:es.findIdx? (·.key.isStr name) with
 | some i=>
  rw[hi] at hany;have hg:=Heap.get?_update_self (Obj.putName name (hashStr X.w name) (.str name tk) v) ho (by simp only[Obj.putName_eq,Obj.putNameByArray,hi];rfl);have he:Obj.putName name (hashStr X.w name) (.str name tk) v { cls:=.type "dict",data:=.dict es n }={ cls:=.type "dict",data:=.dict (es.modify i λe=>{ e with val:=v }) n }:=by simp only[Obj.putName_eq,Obj.putNameByArray,hi]
  rw[he] at hg;have hs:stored kvs name v=kvs.map λkv=>if kv.1=name then (kv.1,v) else kv:=by unfold stored;rw[hany];rfl
  refine zbc _ _ hg _ _ _ hg (zo rfl rfl rfl) rfl (λe he=>?_) ?_ (by rw[hs,keys_map_store];exact nd)
  .obtain⟨j,hj,rfl⟩:=Array.mem_iff_getElem.mp he;rw[Array.getElem_modify];rw[Array.size_modify] at hj;have:=hk es[j] (Array.getElem_mem hj);split<;>exact this
  .rw[hs,Array.toList_modify];exact hp.modify nd (by rw[<-hidx];exact hi) v
 | none=>
  rw[hi] at hany;have hg:=Heap.get?_update_self (Obj.putName name (hashStr X.w name) (.str name tk) v) ho (by simp only[Obj.putName_eq,Obj.putNameByArray,hi];rfl);have he:Obj.putName name (hashStr X.w name) (.str name tk) v { cls:=.type "dict",data:=.dict es n }={ cls:=.type "dict",data:=.dict (es.push ⟨hashStr X.w name,.str name tk,v⟩) (n+1) }:=by simp only[Obj.putName_eq,Obj.putNameByArray,hi]
  rw[he] at hg;have hs:stored kvs name v=kvs++[(name,v)]:=by unfold stored;rw[hany];rfl
  have hno:name∉kvs.map (·.1):=not_mem_of_findIdx_none (by rw[<-hp.findIdx name,<-hidx];exact hi);refine zbc _ _ hg _ _ _ hg (zo rfl rfl rfl) rfl (λe he=>?_) ?_ ?_
  .rcases Array.mem_push.mp he with he|rfl
   .exact hk e he
   .exact zc name hkey rfl
  .rw[hs,gI];exact hp.append hkey _ v
  .rw[hs,fR,gR];refine zo nd (fQ.mpr ⟨gD,.nil⟩) (λa ha b hb e=>?_);simp at hb;subst e;subst hb;exact hno ha
theorem zkY{x C dx:Addr}{fs:List (Nat×AV)}{n:Nat}{av:AV}{v:Value}{R:AHeap->Prop}(KX:K.In X.h₀)(a:At X Y s)(hx:Y x=some (.inst C dx))(hd:Y dx=some (.idict fs))(hn:n<zao)(rv:RepV Y s.heap av v)(hz:fs.length<100)
  (hs:findIn K (.ref C) "__setattr__" = some (some (.builtin "object.__setattr__")))(hp:plainOver K C=true)(ht:takerIn K C (zy n)=some none)(hh:hasDictIn K C=true)(q:R (Y.set dx (.idict (jx fs n av)))) :
  wpAny X.M A (setAttr (.ref x) (zy n) v) (λ_ s'=>∃Y',At X Y' s'/\Step E0 Y s Y' s'/\R Y') E s:=by
 have KS:=KX.keeps a.keep;have I1:=a.rep _ _ hx;refine zE (a.rep _ _ hd) λkvs hD sx hl hsm=>?_;refine ji (zhg hD) λod es ep D e13_4 hsk hko hpr hlk=>?_;subst e13_4;have I:InstAt s.heap x { cls:=.ref C,dict:=some dx,data:=.plain } C (some { cls:=.type "dict",data:=.dict es ep }):=⟨I1,rfl,rfl,D⟩
 refine set_plain KS I hs ?_;refine osa_open (s:={ s with toks:=s.toks+1 }) KS I hp ht λb=>?_;refine zb (any_some hh) λcd hc hd'=>?_;refine G8 (G9 (G8 (G8 (wpAny_loadPart (s:={ s with toks:=s.toks+1 }) I1 (G8 (looks_clsIn KS hc _ _ _ _ (λ_ _ e=>e) ?_))))));rw[hd'];refine G9 (a:=some dx) (G8 (G9 (G8 ?_)));refine G8 (G8 (wpAny_askSetting (G9 (G8 (wpAny_mkText (G8 (wpAny_loadPart D ?_)))))));have c:(!es.any (·.key.isStr (zy n))&&es.any (·.refKey))=false:=by
  have:es.any (·.refKey)=false:=by
   rw[Array.any_eq_false'];intro e he;refine z9 (hsk e he) λn t h=>?_;simp[DictEntry.refKey,h]
  rw[this,Bool.and_false]
 dsimp only;rw[aRefKeyMayBeTheName_at,c];refine js (zm6 (X:=X) (h:=s.heap) D hko hpr (zd6 hD) (zy n) (s.toks+1) v) λes1 n1 D1 hD1=>?_;refine wpAny_updatePart D ?_;have hl1:es1.size<=200:=by
  refine ji hD1 λ_ es2 _ h1 _ h2 _ h3 _=>?_;have e1:=h1.symm.trans D1;obtain rfl:=Hy e1;cases h2;rw[<-pA,h3.length];have:=stored_length_le kvs (zy n) v;have:=sx.length;exact zBq hz (by assumption) this
 refine G8 (wpAny_lookBehind D1 (by exact pastItsLine_dict (by rw[Hc];exact zyZ hl1)) ?_);refine G9 ?_;have sb:=Heap.SameBut.update s.heap dx (Obj.putName (zy n) (hashStr X.w (zy n)) (.str (zy n) (s.toks+1)) v);exact zr (Y.set dx (.idict (jx fs n av))) (a.store _ hd rfl sb λkv=>zhf a hd hn rv hD sx hz kv hD1) (Step.store _ hd rfl sb) q
end
@[irreducible] noncomputable def zbY(Y:AHeap)(C:Addr)(v:AV)(R:Addr->Addr->List (Nat×AV)->Prop):Prop:=∃p dx fs,v = .ref p/\Y p=some (.inst C dx)/\Y dx=some (.idict fs)/\R p dx fs
theorem zn{Y:AHeap}{C p dx:Addr}{fs:List (Nat×AV)}{R:Addr->Addr->List (Nat×AV)->Prop}(h1:Y p=some (.inst C dx))(h2:Y dx=some (.idict fs))(q:R p dx fs):zbY Y C (.ref p) R:=by
 unfold zbY;exact jV p dx fs rfl h1 h2 q
section
variable{X:Cx}{K:Frag}{Y:AHeap}{d:Dp}
def znO(X:Cx)(C fI:Addr)(d:Dp)(args:List AV)(Q:zl)(Z:XP)(Y:AHeap):Prop:=
 ∀dx x,Y dx=none->Y x=none->dx≠x->CallOk X fI ⟨d.n+1,d.hd⟩ (.ref x::args) (λv Y'=>v = .none/\Q (.ref x) Y') Z ((Y.set dx (.idict [])).set x (.inst C dx))
theorem zg2{s:Shared}(XO:X.Ok)(a:At X Y s):(s.heap.objs.size==sysModules)=false:=by
 have h3:(3:Nat)<s.heap.objs.size:=by
  refine jh XO.g λo es ep ho _=>?_;exact Heap.lt_size (a.keep _ _ ho)
 have h4:¬(s.heap.objs.size:Nat)=1:=λe=>by rw[e] at h3;exact absurd h3 (by decide)
 exact beq_false_of_ne h4
theorem zpj{C fI:Addr}{args:List AV}{Q:zl}{Z:XP}{A:Around}{s:Shared}{vs:List Value}(XO:X.Ok)(KX:K.In X.h₀)(hm:makesIn K C=true)(hi:findIn K (.ref C) "__init__" = some (some (.ref fI)))(hf:typeIn K (.ref fI)=some (.type "function"))
  (L:Live X d A)(hd:d.n<590)(a:At X Y s)(r:RepVs Y s.heap args vs)(h:znO X C fI d args Q Z (vis Y)):Hk X.M A (.call (.ref C) ⟨vs,[]⟩) (zuP X Y s Q Z) s:=by
 have KS:=KX.keeps a.keep;have ns:=zg2 XO a;obtain⟨hp,gn,dr,tk,os⟩:=s;refine make_core (makes_of KS hm) (looks_findIn KS hi) (λself=>bind_fn KS self hf) (.inl rfl) ?_;have n0:Y hp.objs.size=none:=a.none_of_size (fN _);have n1:Y (hp.objs.size+1)=none:=a.none_of_size (fBJ _);have a1:At X (Y.set hp.objs.size (.idict [])) ⟨hp.push emptyDict,gn,dr,tk,os⟩:=a.alloc tk λkv=>(qm [] (Heap.DictOf.new hp) .nil (fX _) ns)
 have hsz:(hp.push emptyDict).objs.size=hp.objs.size+1:=size_push' ..;have a2:=a1.alloc (o:=instObj C hp.objs.size) (ao:=.inst C hp.objs.size) tk λ_=>Heap.get?_push_size _ rfl;have st1:Step E0 Y ⟨hp,gn,dr,tk,os⟩ (Y.set hp.objs.size (.idict [])) ⟨hp.push emptyDict,gn,dr,tk,os⟩:=Step.alloc a emptyDict _ tk;have st2:=st1.trans (Step.alloc (B:=E0) a1 (instObj C hp.objs.size) (.inst C hp.objs.size) tk);dsimp only at a2 st2;rw[hsz] at a2 st2;have L1:Live X ⟨d.n+1,d.hd⟩ (A.under (.builtin "type.__call__" ⟨.ref C::vs,[]⟩)):=⟨by rw[depth_under_make];have:=L.depth;show A.depth+1<=301+(d.n+1);exact zwr this,by
  show A.units+Code.cUnits (.builtin "type.__call__" ⟨.ref C::vs,[]⟩)<=20+8*(d.n+1);have h1:Code.cUnits (.builtin "type.__call__" ⟨.ref C::vs,[]⟩)<=8:=gQ (by kernel_rfl);have:=L.units;exact zBD h1 this,L.handled,by show d.n+1<=600;exact zyQ hd,L.frames⟩
 have hh:=h hp.objs.size (hp.objs.size+1) (qw n0) (qw n1) (fAO (fCB _));unfold CallOk at hh;refine Hh (hh _ _ (.ref (hp.objs.size+1)::vs) _ (by rw[jF rfl,jF rfl]) L1 a2 (.cons (.ref _) (r.mono (st2.keepV0 a)))) λres s' hr=>?_;cases res with
 | error e=>exact liftX.back st2 hr
 | ok fl=>
  cases fl with
  | next=>exact hr.elim
  | brk=>exact hr.elim
  | cont=>exact hr.elim
  | ret v=>
   refine zv hr λav Y' rv a' st' e2_5 q=>?_;subst e2_5;obtain rfl:=RepV.wK rv;exact zcZ rfl (.ref (hp.objs.size+1)) Y' (.ref _) a' (st2.trans st') q
end
noncomputable def kI(x:Str):Option Nat:=strT.findIdx? λy=>x==y
theorem jB{x:Str}{n:Nat}(h:kI x=some n):n<zao/\zy n=x:=by
 obtain⟨h1,h2,_⟩:=List.findIdx?_eq_some_iff_getElem.mp h;refine⟨h1,?_⟩;unfold zy;rw[fS,fU h1];exact(beq_iff_eq.mp h2).symm
theorem zgu{x:Str}(h:kI x=none):x∉strT:=λq=>by
 have:=List.findIdx?_eq_none_iff.mp h x q;simp at this
noncomputable def ztf(fs:List (Nat×AV))(nc:Option Nat):Bool:=match nc with
 | some n=>(kO fs n).isNone
 | none=>true
namespace A
def zuy(C:Addr)(n:Nat)(Q:zl):zl:=λv Y1=>zbY Y1 C v λ_ _ fs=>zt (kO fs n) (kAt Q Y1)
def zya(X:Cx)(f:Addr)(d:Dp)(p:Addr)(Q:zl)(Z:XP):List AV->AHeap->Prop:=λas Y2=>CallOk X f d (.ref p::as) Q Z Y2
def kMc(X:Cx)(C:Addr)(nc:Option Nat)(f:Addr)(ms:List AE)(d:Dp)(l:Loc)(Q:zl)(Z:XP):zl:=λv Y1=>zbY Y1 C v λp _ fs=>onB (ztf fs nc) (za7 ms d l (zya X f d p Q Z) Z Y1)
def zye(C:Addr)(n:Nat)(l:Loc)(Q:zT)(av:AV):zl:=λv Y2=>zbY Y2 C v λ_ dx fs=>onB (Nat.blt fs.length 100) (Q .next l (Y2.set dx (.idict (jx fs n av))))
def kSa(C:Addr)(n:Nat)(x:AE)(d:Dp)(l:Loc)(Q:zT)(Z:SXP):zl:=λav Y1=>x d l (zye C n l Q av) (kZ Z l) Y1
def wR(C:Addr)(n:Nat)(x:AE):AE:=λd l Q Z Y=>x d l (zuy C n Q) Z Y
def wO(X:Cx)(C:Addr)(nc:Option Nat)(f:Addr)(x:AE)(ms:List AE):AE:=λd l Q Z Y=>x d l (kMc X C nc f ms d l Q Z) Z Y
def wY(C:Addr)(n:Nat)(x mv:AE):AS:=λd l Q Z Y=>mv d l (kSa C n x d l Q Z) (kZ Z l) Y
def new(X:Cx)(C fI:Addr)(ms:List AE):AE:=λd l Q Z Y=>za7 ms d l (λas Y'=>d.n<590/\znO X C fI d as Q Z Y') Z Y
end A
section
variable{X:Cx}{K:Frag}{env:Env}{nm:List (Str×Nat)}{names:List (Str×NameKind)}
theorem zgL{C:Addr}{v:AV}{Y:AHeap}{R:Addr->Addr->List (Nat×AV)->Prop}(h:zbY (vis Y) C v R):∃p dx fs,v = .ref p/\Y p=some (.inst C dx)/\Y dx=some (.idict fs)/\R p dx fs:=by
 unfold zbY at h;obtain⟨p,dx,fs,e,h1,h2,q⟩:=h;exact jV p dx fs e ((zG h1).1) ((zG h2).1) q
theorem zty{C:Addr}{n:Nat}{name:Str}{o:Expr}{x:AE}{pos:Pos}(G:Gd X K)(hn:n<zao)(hs:zy n=name)(hg:plainGet K C name=true)(hh:hasDictIn K C=true)(hc:findIn K (.ref C) name=some none)(hb:∀e,attributeBase o name e (eval o e)=eval o e)(hx:zi X env nm o x) :
  zi X env nm (.Attribute o name pos) (A.wR C n x):=λd A l Y s Q Z L a F q=>by
 rw[arm_eval_Attribute,hb];subst hs;refine G8 (zam (hx d A l Y s _ Z L a F q) λav v Y1 s1 rv a1 st1 q1=>?_);obtain⟨p,dx,fs,rfl,hp,hd,q1⟩:=zgL q1;obtain⟨av,hf,q1⟩:=zg q1;obtain rfl:=RepV.wM rv;refine G8 (Hi ?_);refine G8 (Hb (Ha (j4 st1 (zrG (Q:=Q) (E:=liftX X Y1 s1 Z) G.inn a1 hp hd hn hf hg hh hc q1)) (λr s2 h2=>?_) λ_ _ e=>e));exact G8 (wpAny_letTemporaryGo (G9 h2))
theorem zrC{C f:Addr}{name:Str}{o:Expr}{es:List Expr}{ms:List AE}{x:AE}{apos pos:Pos}{ob:Obj}{fd:FuncData}(G:Gd X K)(hg:plainGet K C name=true)(hf:findIn K (.ref C) name=some (some (.ref f)))(ht:PySem.W.isFn K (.ref f)=true)(ho:K.lookup f=some ob)(hfd:ob.data = .func fd)
  (hb:∀e,attributeBase o name e (eval o e)=eval o e)(hl:(apos.endLine==pos.line)=true)(hn:decide (es.length<30)=true)(hx:zi X env nm o x)(h:SoundEs X env nm es ms) :
  zi X env nm (.Call (.Attribute o name apos) es [] pos) (A.wO X C (kI name) f x ms):=λd A l Y s Q Z L a F q=>by
 rw[arm_eval_Call,hb];refine G8 (zam (hx d A l Y s _ Z L a F q) λav v Y1 s1 rv a1 st1 q1=>?_);obtain⟨p,dx,fs,rfl,hp,hd,q1⟩:=zgL q1;obtain⟨hno,q1⟩:=qG q1;obtain rfl:=RepV.wM rv;refine G8 (Hi ?_);have h1:(backTo pos (starEach es env)).all (λx=>!x.1)=true:=by
  rw[List.all_eq_not_any_not];simp only[Bool.not_not];rw[h.plain];rfl
 have hform:methodCallForm (es.length+([]:List Keyword).length) (backTo pos (starEach es env)) (backToKw pos (keywordEach [] env))=true:=by
  unfold methodCallForm;rw[h1];show (true&&true&&decide (es.length+0+0<30))=true
  simpa using hn
 have hpos:methodCallPos true o env apos pos=pure pos:=by unfold methodCallPos;simp[hl]
 obtain⟨od,I,k1⟩:∃od:Obj,InstAt s1.heap p { cls:=.ref C,dict:=some dx,data:=.plain } C (some od)/\lookIn name od=some none:=by
  cases hc:kI name with
  | none=>exact a1.instNo hp hd (zgu hc)
  | some n=>
   obtain⟨c1,rfl⟩:=jB hc;refine zb (a1.inst hp hd) λod I hlk=>?_;obtain⟨r,h2,h3⟩:=hlk n c1;rw[hc] at hno
   rcases h3 with⟨_,rfl⟩|⟨_,_,h3,_⟩
   .exact zc od I h2
   .have hno:(kO fs n).isNone=true:=hno;rw[h3] at hno;cases hno
 unfold methodCall;rw[hform];refine G8 (Hb (method_fn (G.inn.keeps a1.keep) I (plainGet_of hg).1 (plainGet_of hg).2 hf (beq_iff_eq.mp ht) (by show (lookIn name od).map _=_;rw[k1];rfl) ?_));refine G8 (wpAny_of_eq hpos ?_);refine callWith_function_kw (o:=ob) (fd:=fd) (Ha (qH h L a1 (F.step a st1) q1 λvs s2 hv=>?_) (λ_ _ x=>x) λ_ _ x=>x.back st1);refine zj hv λavs Y2 r2 a2 st2 q2=>?_;refine⟨⟨a2.keep _ _ (G.inn _ _ ho),hfd⟩,?_⟩;exact j4 (st1.trans st2) (q2.call L a2 (.cons (.ref p) r2))
theorem zrD{C:Addr}{n:Nat}{name:Str}{o value:Expr}{x mv:AE}{pos' pos:Pos}(G:Gd X K)(hn:n<zao)(hsn:zy n=name)(hs:findIn K (.ref C) "__setattr__" = some (some (.builtin "object.__setattr__")))(hp:plainOver K C=true)(ht:takerIn K C name=some none)(hh:hasDictIn K C=true)
  (hw:swapsWith value (some (.Attribute o name pos')) pos.line env=pure false)(hv:zi X env nm value mv)(hx:zi X env nm o x) :
  jr X env nm (.Assign [.Attribute o name pos'] value pos) (A.wY C n x mv):=λd A l Y s Q Z L a F q=>by
 subst hsn;refine plainObj_wpAny_Assign_Attribute (Ha (hv d A l Y s _ _ L a F q) (λv s1 x=>?_) λ_ _ x=>x.toS a F) hw;refine zj x λav Y1 rv a1 st1 q1=>?_;have F1:=F.step a st1;have st1':=st1.weaken (B':=FB env) FB.wP;refine Ha (hx d A l Y1 s1 _ _ L a1 F1 q1) (λu s2 x=>?_) λ_ _ x=>(x.toS a1 F1).back st1';refine zj x λbv Y2 ru a2 st2e q2=>?_;obtain⟨p,dx,fs,rfl,h1,h2,q2⟩:=zgL q2;obtain⟨h3,q2⟩:=qG q2;obtain rfl:=RepV.wM ru;have F2:=F1.step a1 st2e;have st2':=st1'.trans (st2e.weaken (B':=FB env) FB.wP);refine Ha (zkY (R:=λY'=>Y'=Y2.set dx (.idict (jx fs n av))) G.inn a2 h1 h2 hn (rv.mono (st2e.keepV0 a1)) (fDH.mp h3) hs hp ht hh rfl) (λ_ s3 x=>?_) λ_ _ e=>e;refine zh x λY3 a3 st3 e17_3=>?_;subst e17_3;exact zH .next l _ trivial a3 (F2.step a2 st3) (st2'.trans (st3.weaken FB.wP)) (by rw[jF rfl];exact q2)
theorem zu3{g:Str}{C fI:Addr}{es:List Expr}{ms:List AE}{gp pos:Pos}(G:Gd X K)(E:EK env names)(hc:nsIn K Hm g=some (some (.ref C)))(hg:qp names g=true)(hkp:keepIn K (.ref C)=true)(hm:makesIn K C=true)
  (hi:findIn K (.ref C) "__init__" = some (some (.ref fI)))(hf:typeIn K (.ref fI)=some (.type "function"))(h:SoundEs X env nm es ms) :
  zi X env nm (.Call (.Name g gp) es [] pos) (A.new X C fI ms):=λd A l Y s Q Z L a F q=>by
 refine Call_ (kj G.ok E.eo a (E.glob hg).1 (E.glob hg).2 (mg_of G.inn G.ok.g hc) ?_);refine callWith_of (P:=λh=>K.In h) (by rw[h.plain];rfl) (λhp X'=>keeps_K hkp hp X') (qH h L a F q λvs s1 hv=>?_);refine zv hv λavs Y1 r a1 st hd q1=>?_;refine⟨G.inn.keeps a1.keep,?_⟩;exact j4 st (wpAny_call (Hh (zpj G.ok G.inn hm hi hf L hd a1 r q1) λres s' x=>x))
end
def A.wJ:AS:=λ_ _ _ _ _=>False
theorem ziV{X:Cx}{env:Env}{nm:List (Str×Nat)}{st:Stmt}:jr X env nm st A.wJ:=λ_ _ _ _ _ _ _ _ _ _ q=>q.elim
@[irreducible] noncomputable def ziK(p:Addr)(k x:AV)(R:AHeap->Prop)(Y:AHeap):Prop:=(∃kvs row,Y p=some (.tdict kvs)/\k=zC row/\kvs.length<1000000/\R (Y.set p (.tdict (Tab.put kvs row x))))\/
 (∃fs n,Y p=some (.idict fs)/\k = .str n/\fs.length<100/\R (Y.set p (.idict (jx fs n x))))\/
 (∃xs i,Y p=some (.list xs)/\k = .int i/\0<=i/\i.toNat<xs.length/\R (Y.set p (.list (xs.set i.toNat x))))
theorem zbn{p:Addr}{kvs:Tab}{row:List zd}{x:AV}{R:AHeap->Prop}{Y:AHeap}(h:Y p=some (.tdict kvs))(hl:kvs.length<1000000)(q:R (Y.set p (.tdict (Tab.put kvs row x)))):ziK p (zC row) x R Y:=by
 unfold ziK;exact .inl (zq kvs row h rfl hl q)
theorem zhb{p:Addr}{fs:List (Nat×AV)}{n:Nat}{x:AV}{R:AHeap->Prop}{Y:AHeap}(h:Y p=some (.idict fs))(hl:fs.length<100)(q:R (Y.set p (.idict (jx fs n x)))):ziK p (.str n) x R Y:=by
 unfold ziK;exact .inr (.inl (zq fs n h rfl hl q))
noncomputable def zkV(kvs:List (AV×AV))(fs:List (Nat×AV)):Option (List (Nat×AV)):=match kvs with
 | []=>some fs
 | p::r=>p.1.str?.bind λn=>zkV r (jx fs n p.2)
def zkj(ps:List (AE×AE))(d:Dp)(l:Loc)(Q:List (AV×AV)->AHeap->Prop)(Z:XP)(Y:AHeap):Prop:=match ps with
 | []=>Q [] Y
 | p::r=>p.1 d l (λk Y1=>p.2 d l (λv Y2=>zkj r d l (λkvs Y3=>Q ((k,v)::kvs) Y3) Z Y2) Z Y1) Z Y
namespace A
def kD4(l:Loc)(S:zT)(Y4:AHeap):Prop:=S .next l Y4
def kD3(a b:AV)(l:Loc)(S:zT):zl:=λc Y3=>zpm b λp=>ziK p c a (kD4 l S) Y3
def kD2(k:AE)(a:AV)(d:Dp)(l:Loc)(S:zT)(SZ:SXP):zl:=λb Y2=>k d l (kD3 a b l S) (kZ SZ l) Y2
def kD1(x k:AE)(d:Dp)(l:Loc)(S:zT)(SZ:SXP):zl:=λa Y1=>x d l (kD2 k a d l S SZ) (kZ SZ l) Y1
def wS(v x k:AE):AS:=λd l S SZ Y=>v d l (kD1 x k d l S SZ) (kZ SZ l) Y
def dic(ps:List (AE×AE)):AE:=λd l Q Z Y=>∀r,Y r=none->zkj ps d l (λkvs Y1=>Y1 r=some (.idict [])/\zt (zkV kvs []) λfs=>Q (.ref r) (Y1.set r (.idict fs))) Z (Y.set r (.idict []))
def dT0:AE:=λd l Q Z Y=>∀r,Y r=none->Q (.ref r) (Y.set r (.tdict []))
def dT1(k v:AE):AE:=λd l Q Z Y=>∀r,Y r=none->k d l (λa Y1=>v d l (λb Y2=>∃row,a=zC row/\Y2 r=some (.tdict [])/\Q (.ref r) (Y2.set r (.tdict [(row,b)]))) Z Y1) Z (Y.set r (.tdict []))
end A
section
variable{X:Cx}{env:Env}{nm:List (Str×Nat)}{Y:AHeap}{s:Shared}{d:Dp}{A:Around}{E:Value->Shared->Prop}
theorem zoR{p:Addr}{us:List Value}{n:Nat}{i:Int}{tk:Tok}{v:Value}{Q:Unit->Shared->Prop}(ho:s.heap.get? p=some (zS us n))(h0:0<=i)(hi:i.toNat<us.length)(hl:us.length<=1000000)(q:Q () { s with heap:=s.heap.update p (Obj.mapSeq (·.setIfInBounds i.toNat v)) }):wpAny X.M A (setItem (.ref p) (.int i tk) v) Q E s:=by
 have hL:s.heap.IsList p us.toArray:=(qn _ ho rfl n rfl)
 obtain⟨y,hx⟩:∃y,us.toArray[i.toNat]? = some y:=⟨us[i.toNat],by simp[hi]⟩
 have hfit:i<2 ^ 63:=by lia
 unfold setItem
 try with_reducible refine Hb ?_
 first|refine G8 (G9 ?_)|skip
 refine G8 (wpAny_sequenceKey hL.typeIs (by decide) ?_);refine G8 (wpAny_callSpecial?_slot (name:=Str.ofString "__setitem__") hL.typeIs slot_list_setitem (Hf slot_list_setitem hL.typeIs entry_list_setitem ?_ (args_list_setitem _ _ _)));show wpAny _ _ (Builtin.List.listSubscript? (.int i tk) >>= _) _ _ s;refine G8 (wpAny_listSubscript_int (fitsIndex_of h0 hfit) ?_);clear hfit;obtain⟨j,rfl⟩:=fAT h0;refine G8 (G8 (wpAny_seqItemAt ho rfl (G9 ?_)));rw[fCU] at hx q;rw[hx];refine G8 (wpAny_setSeqItemAt ho rfl ?_)
 first
  | exact G8 (G9 (G9 (zc .none rfl (G9 q))))
  | exact G9 ⟨.none,rfl,G9 q⟩
theorem RepVs.set{h:Heap}{xs:List AV}{vs:List Value}(r:RepVs Y h xs vs){x:AV}{v:Value}(rx:RepV Y h x v):∀n,RepVs Y h (xs.set n x) (vs.set n v):=by
 induction xs generalizing vs with
 | nil=>intro n;obtain rfl:=RepVs.wG r;exact .nil
 | cons y xs ih=>
  obtain⟨_,_,rfl,a,r⟩:=RepVs.wF r;intro n;cases n with
  | zero=>exact .cons rx r
  | succ n=>exact .cons a (ih r n)
theorem zm7{p:Addr}{k x:AV}{u v:Value}{R:AHeap->Prop}(L:Live X d A)(a:At X Y s)(rk:RepV Y s.heap k u)(rv:RepV Y s.heap x v)(q:ziK p k x R (vis Y)):wpAny X.M A (setItem (.ref p) u v) (λ_ s'=>∃Y',At X Y' s'/\Step E0 Y s Y' s'/\R (vis Y')) E s:=by
 unfold ziK at q
 rcases q with⟨kvs,row,hp,rfl,hl,q⟩|⟨fs,n,hp,rfl,hl,q⟩|⟨xs,i,hp,rfl,h0,hi,q⟩
 .exact zrx L a (zG hp).1 rk rv hl λs' a' st=>(zr _ a' st (by rw[jF rfl];exact q))
 .exact zts a (zG hp).1 rk rv hl λs' a' st=>(zr _ a' st (by rw[jF rfl];exact q))
 .have hp:=(zG hp).1;refine zm (a.rep _ _ hp) λus n ho ru hl=>?_;obtain⟨tk,rfl⟩:=RepV.wD rk;have hlen:=ru.length;refine zoR ho h0 (zyt hi hlen) (zwz hl hlen) ?_;refine zj (zca (Q:=λ_ Y'=>R Y') (ys:=xs.set i.toNat x) (ws:=us.set i.toNat v) (x:=.none) (v:=.none) a hp ho (·.setIfInBounds i.toNat v) (by simp) (ru.set rv _) (by rw[List.length_set];exact hl) .none q) λav Y' r' a' st' q'=>?_;exact zr Y' a' st' q'
end
section
variable{X:Cx}{env:Env}{nm:List (Str×Nat)}{Y:AHeap}{s:Shared}
theorem zkJ{o i value:Expr}{pos' pos:Pos}{mv mx mk:AE}(hv:zi X env nm value mv)(hx:zi X env nm o mx)(hk:zi X env nm i mk)(hs:swapsWith value (some (.Subscript o i pos')) pos.line env=pure false) :
  jr X env nm (.Assign [.Subscript o i pos'] value pos) (A.wS mv mx mk):=λd A l Y s Q Z L a F q=>by
 refine wpAny_Assign_Subscript (Ha (hv d A l Y s _ _ L a F q) (λv s1 x=>?_) λ_ _ x=>x.toS a F) hs;refine zj x λav Y1 rv a1 st1 q1=>?_;have F1:=F.step a st1;have st1':=st1.weaken (B':=FB env) FB.wP;refine Ha (hx d A l Y1 s1 _ _ L a1 F1 q1) (λu s2 x=>?_) λ_ _ x=>(x.toS a1 F1).back st1';refine zj x λbv Y2 ru a2 st2e q2=>?_;have F2:=F1.step a1 st2e;have st2':=st1'.trans (st2e.weaken (B':=FB env) FB.wP);refine Ha (hk d A l Y2 s2 _ _ L a2 F2 q2) (λw s3 x=>?_) λ_ _ x=>(x.toS a2 F2).back st2';refine zj x λcv Y3 rw_ a3 st3e q3=>?_;have F3:=F2.step a2 st3e;have st3':=st2'.trans (st3e.weaken (B':=FB env) FB.wP);have rv3:=(rv.mono (st2e.keepV0 a1)).mono (st3e.keepV0 a2);have ru3:=ru.mono (st3e.keepV0 a2);refine zb (ziE q3) λp e8_1 q3=>?_;subst e8_1;obtain rfl:=RepV.wM ru3;refine Ha (zm7 L a3 rw_ rv3 q3) (λ_ s4 x=>?_) λ_ _ e=>e;refine zh x λY4 a4 st4 q4=>?_;exact zH .next l _ trivial a4 (F3.step a3 st4) (st3'.trans (st4.weaken FB.wP)) q4
theorem zpi(XO:X.Ok)(a:At X Y s):At X (Y.set s.heap.objs.size (.tdict [])) { s with heap:=s.heap.push { cls:=.type "dict",data:=.dict #[] } }/\Step E0 Y s (Y.set s.heap.objs.size (.tdict [])) { s with heap:=s.heap.push { cls:=.type "dict",data:=.dict #[] } }:=
 ⟨a.alloc s.toks λ_=>(jw (#[]) 0 (Heap.get?_push_size _ rfl) .nil .nil (by simp) (zg2 XO a)),Step.alloc a _ _ s.toks⟩
theorem zuJ(XO:X.Ok)(a:At X Y s):At X (Y.set s.heap.objs.size (.idict [])) { s with heap:=s.heap.push { cls:=.type "dict",data:=.dict #[] } }/\Step E0 Y s (Y.set s.heap.objs.size (.idict [])) { s with heap:=s.heap.push { cls:=.type "dict",data:=.dict #[] } }:=
 ⟨a.alloc s.toks λ_=>(qm [] (Heap.DictOf.new _) .nil (fX _) (zg2 XO a)),Step.alloc a _ _ s.toks⟩
theorem zni{pos:Pos}(XO:X.Ok):zi X env nm (.Dict [] [] pos) A.dT0:=λd A l Y s Q Z L a F q=>by
 have h:=zpi XO a;exact wpAny_Dict_empty (zq (.ref _) _ (.ref _) h.1 h.2 (by rw[jF rfl];exact q _ (qw (a.none_of_size (fN _)))))
theorem znj{ke ve:Expr}{pos:Pos}{mk mv:AE}(XO:X.Ok)(hk:zi X env nm ke mk)(hv:zi X env nm ve mv):zi X env nm (.Dict [some ke] [ve] pos) (A.dT1 mk mv):=λd A l Y s Q Z L a F q=>by
 have hn:=zpi XO a;have a0:=hn.1;have st0:=hn.2;refine wpAny_Dict_any rfl rfl (by simp) (by simp) ?_;have F0:=F.step a st0;have q0:=q _ (qw (a.none_of_size (fN _)));rw[<-jF rfl] at q0;show wpAny X.M A (do
  let kv <-eval ke env
  let vv <-holding [kv] (do let x <-eval ve env;standAt pos;pure x)
  return (kv,vv)::(<-holding [kv,vv] (evalPairs []))) _ _ _
 refine G8 (Ha (hk d A l _ _ _ _ L a0 F0 q0) (λkv s1 x=>?_) λ_ _ x=>x.back st0);refine zj x λak Y1 rk a1 st1 q1=>?_;refine G8 (Hb (G8 (Ha (hv d A l Y1 s1 _ _ L a1 (F0.step a0 st1) q1) (λvv s2 x=>?_) λ_ _ x=>x.back (st0.trans st1))));refine zj x λax Y2 rx a2 st2 q2=>?_;refine G8 (Hi (G9 (G8 (Hb (G9 (G9 ?_))))));have rk2:=rk.mono (st2.keepV0 a1);refine zh q2 λrow e12_1 hp q3=>?_;subst e12_1;refine He _ (λrest _ s'=>(rest=[(kv,vv)]/\s'=s2)\/(rest=[]/\∃Y3,At X Y3 s'/\Step E0 Y2 s2 Y3 s'/\Q (.ref s.heap.objs.size) (vis Y3))) _ ?_ ?_ _ _ (.inl ⟨rfl,rfl⟩)
 .rintro x rest b s' (⟨e,rfl⟩|⟨e,_⟩)
  .cases e;exact G8 (zrw L a2 (zG hp).1 rk2 rx (by decide) λs4 a4 st4=>G9 (.inr (zgG rfl _ a4 st4 (by rw[jF rfl];exact q3))))
  .cases e
 .rintro b s' (⟨e,_⟩|⟨_,Y3,a3,st3,q4⟩)
  .cases e
  .exact zq (.ref _) Y3 (.ref _) a3 (st0.trans (st1.trans (st2.trans st3))) q4
inductive SoundPs(X:Cx)(env:Env)(nm:List (Str×Nat)):List (Option Expr)->List Expr->List (AE×AE)->Prop
 | nil:SoundPs X env nm [] [] []
 | cons {k v ks vs mk mv ms}:zi X env nm k mk->zi X env nm v mv->SoundPs X env nm ks vs ms->SoundPs X env nm (some k::ks) (v::vs) ((mk,mv)::ms)
inductive RepPs(Y:AHeap)(h:Heap):List (AV×AV)->List (Value×Value)->Prop
 | nil:RepPs Y h [] []
 | cons {k x u v kvs uvs}:RepV Y h k u->RepV Y h x v->RepPs Y h kvs uvs->RepPs Y h ((k,x)::kvs) ((u,v)::uvs)
theorem RepPs.mono{Y':AHeap}{h h':Heap}(k:KeepV Y h Y' h'){kvs:List (AV×AV)}{uvs:List (Value×Value)}(r:RepPs Y h kvs uvs):RepPs Y' h' kvs uvs:=by
 induction r with
 | nil=>exact .nil
 | cons a b _ ih=>exact .cons (a.mono k) (b.mono k) ih
theorem ziG{pos:Pos}{ks:List (Option Expr)}{vs:List Expr}{ms:List (AE×AE)}(h:SoundPs X env nm ks vs ms):∀{d A l Y s Q Z},Live X d A->At X Y s->FR X env nm l Y s.heap->zkj ms d l Q Z (vis Y)->
  wpAny X.M A (evalPairs (pairTrees ks vs env pos)) (λuvs s'=>∃kvs Y',kvs.length=ms.length/\RepPs Y' s'.heap kvs uvs/\At X Y' s'/\Step E0 Y s Y' s'/\Q kvs (vis Y')) (liftX X Y s Z) s:=by
 induction h with
 | nil=>intro d A l Y s Q Z L a F q;exact evalPairs_nil ⟨[],Y,rfl,.nil,a,.refl ..,q⟩
 | @cons k v ks vs mk mv ms hk hv r ih=>
  intro d A l Y s Q Z L a F q;refine evalPairs_cons (Ha (hk d A l Y s _ Z L a F q) (λkv s1 x=>?_) λ_ _ x=>x);refine zj x λak Y1 rk a1 st1 q1=>?_;refine G8 (Ha (hv d A l Y1 s1 _ Z L a1 (F.step a st1) q1) (λvv s2 x=>?_) λ_ _ x=>x.back st1);refine zj x λax Y2 rx a2 st2 q2=>?_;refine G8 (Hi (G9 ?_));refine Ha (ih L a2 ((F.step a st1).step a1 st2) q2) (λuvs s3 x=>?_) λ_ _ x=>x.back (st1.trans st2);refine zv x λkvs Y3 hl3 r3 a3 st3 q3=>?_;exact jw ((ak,ax)::kvs) Y3 (by rw[fH,fH,hl3]) (.cons ((rk.mono (st2.keepV0 a1)).mono (st3.keepV0 a2)) (rx.mono (st3.keepV0 a2)) r3) a3 (st1.trans (st2.trans st3)) q3
theorem zi2{A:Around}{E:Value->Shared->Prop}{p:Addr}:∀{uvs:List (Value×Value)} {kvs:List (AV×AV)} {fs gs:List (Nat×AV)} {Y:AHeap} {s:Shared} {S:PUnit->Shared->Prop},At X Y s->RepPs Y s.heap kvs uvs->Y p=some (.idict fs)->zkV kvs fs=some gs->fs.length+kvs.length<100->
  (∀Y' s',At X Y' s'->Step E0 Y s Y' s'->vis Y'=(vis Y).set p (.idict gs)->S PUnit.unit s')->wpAny X.M A (storeAll p uvs) S E s:=by
 intro uvs;unfold storeAll
 induction uvs with
 | nil=>
  intro kvs fs gs Y s S a r hp ht hl q;cases r;cases ht;refine G9 (q Y s a (.refl ..) ?_)
  funext b
  by_cases hb:b=p
  .subst hb;rw[AHeap.wA];exact zhs hp rfl
  .rw[AHeap.wB _ _ hb]
 | cons uv uvs ih=>
  intro kvs fs gs Y s S a r hp ht hl q;cases r with
  | @cons k x u v kvs _ rk rx r=>
   refine zb (pT.mp ht) λn h1 h2=>?_;have h1:=zhn h1;have h1:k = .str n:=h1;subst h1;rw[fH] at hl;rw[List.forIn_cons];refine G8 (G8 (ztr a hp rk rx (zzw hl) λs1 a1 st1=>G9 ?_));have:=zdf fs n x;refine ih a1 (r.mono (st1.keepV0 a)) (AHeap.wA ..) h2 (zA3 hl this) λY' s' a' st' e=>q Y' s' a' (st1.trans st') ?_;rw[e,jF rfl]
   funext b
   by_cases hb:b=p
   .subst hb;rw[AHeap.wA,AHeap.wA]
   .rw[AHeap.wB _ _ hb,AHeap.wB _ _ hb,AHeap.wB _ _ hb]
theorem SoundPs.all{ks:List (Option Expr)}{vs:List Expr}{ms:List (AE×AE)}(h:SoundPs X env nm ks vs ms):ks.all (·.isSome)=true/\ks.length=vs.length/\ms.length=ks.length:=by
 induction h with
 | nil=>exact⟨rfl,rfl,rfl⟩
 | cons _ _ _ ih=>exact zo (by simpa using ih.1) (by rw[fH,fH,ih.2.1]) (by rw[fH,fH,ih.2.2])
theorem znk{ks:List (Option Expr)}{vs:List Expr}{pos:Pos}{ms:List (AE×AE)}(XO:X.Ok)(h:SoundPs X env nm ks vs ms)(hl:ks.length<=15):zi X env nm (.Dict ks vs pos) (A.dic ms):=λd A l Y s Q Z L a F q=>by
 have hn:=zuJ XO a;have a0:=hn.1;have st0:=hn.2;have q0:=q _ (qw (a.none_of_size (fN _)));rw[<-jF rfl] at q0
 by_cases he:ks=[]
 .subst he;cases h;obtain⟨_,q1⟩:=q0;refine wpAny_Dict_empty (zq (.ref _) _ (.ref _) a0 st0 ?_);have e:(vis (Y.set s.heap.objs.size (.idict []))).set s.heap.objs.size (.idict [])=vis (Y.set s.heap.objs.size (.idict [])):=by
   rw[jF rfl]
   funext b
   by_cases hb:b=s.heap.objs.size
   .subst hb;rw[AHeap.wA,AHeap.wA]
   .rw[AHeap.wB _ _ hb]
  rw[<-e];exact q1
 .have ha:=h.all;refine wpAny_Dict_any ha.1 ha.2.1 he hl ?_;refine Ha (ziG h L a0 (F.step a st0) q0) (λuvs s1 x=>?_) λ_ _ x=>x.back st0;refine zea x λkvs Y1 hkl0 r1 a1 st1 hp q1=>?_;refine zb (zg q1) λfs ht q2=>?_;have hkl:kvs.length<100:=by have:=ha.2.2;lia
  exact zi2 a1 r1 (zG hp).1 ht (by simpa using hkl) λY2 s2 a2 st2 e=>(zq (.ref _) Y2 (.ref _) a2 (st0.trans (st1.trans st2)) (by rw[e];exact q2))
end
noncomputable def zdR(e:Expr):Bool:=!(Nat.beq e.ctorIdx 8||Nat.beq e.ctorIdx 9||Nat.beq e.ctorIdx 10)
theorem zdC{e:Expr}(h:zdR e=true)(t:Option Expr)(line:Nat)(env:Env):swapsWith e t line env=pure false:=by
 cases e<;>first|rfl|exact nob h
theorem zkS(e:Expr)(o:Expr)(x:Str)(p:Pos)(line:Nat)(env:Env):swapsWith e (some (.Attribute o x p)) line env=pure false:=by
 cases e<;>rfl
theorem znD(e:Expr)(o i:Expr)(p:Pos)(line:Nat)(env:Env):swapsWith e (some (.Subscript o i p)) line env=pure false:=by
 cases e<;>rfl
noncomputable def zc8:Expr->Bool
 | .Call f _ _ _=>(match f with
  | .Name ..=>false
  | _=>true)
 | _=>true
theorem zbL{o:Expr}(h:zc8 o=true)(name:Str)(env:Env)(w:Sem Value):attributeBase o name env w=w:=by
 cases o with
 | Call f _ _ _=>cases f<;>first|rfl|exact nob h
 | _=>rfl
noncomputable def veB:List Value:=[.type "ValueError",.type "Exception",.type "BaseException",.type "object"]
structure ExcCls(h:Heap)(C:Addr)(tl:List Addr):Prop where
 ex:∃nm q N bs hdct sn sub ab col dd k0 k1 k2 k3 k5 mN,h.get? C=some (excClassObj nm q C N bs (tl.map .ref++veB) hdct sn sub ab col dd k0 k1 k2 k3 k5 "ValueError.__new__")/\h.Ns N mN/\mN "__init__" = none/\OwnTail h veB (tl.map .ref++veB)
theorem zl0(tl:List Addr):(tl.map Value.ref++veB).contains (.type "BaseException")=true:=by
 induction tl with
 | nil=>rfl
 | cons a r ih=>rw[gJ,List.cons_append,List.contains_cons,ih,Bool.or_true]
namespace A
def wX(C:Addr):AS:=λd l _ SZ Y=>w3 d (SZ C l Y)
def vH(b:AS)(hits:List Addr)(n:Option Nat)(h:AS):AS:=λd l S SZ Y=>w3 d (b d l S (λc l' Y'=>onB (hits.contains c) (match n with
 | none=>h ⟨d.n,true⟩ l' S (λ_ _ _=>False) Y'
 | some i=>h ⟨d.n,true⟩ (l'.set i (some (.exc c))) (λf l'' Y''=>S f (l''.set i none) Y'') (λ_ _ _=>False) Y')) Y)
end A
section
variable{X:Cx}{env:Env}{nm:List (Str×Nat)}
theorem ziW{x:Str}{C:Addr}{tl:List Addr}{t:Str}{k:Nat}{np cp cpos pos:Pos}(XO:X.Ok)(EO:EnvOk env)(hx:env.kindOf x=some .globalImplicit)(hd:(x==("__debug__" : Str))=false)(hv:X.mg x=some (.ref C))(hC:ExcCls X.h₀ C tl) :
  jr X env nm (.Raise (some (.Call (.Name x np) [.Constant (.str t) k cp] [] cpos)) none pos) (A.wX C):=λd A l Y s Q Z L a F q=>by
 obtain⟨hh,q⟩:=kL q;refine ql hC.ex λnmC qC N bs hdct sn sub ab col dd k0 k1 k2 k3 k5 mN h1 h2 h3 h4=>?_;refine zM (wpAny_Raise_call_subT (nm:=nmC) (q:=qC) (bs:=bs) (hdct:=hdct) (sn:=sn) (sub:=sub) (ab:=ab) (col:=col) (dd:=dd) (k0:=k0) (k1:=k1) (k2:=k2) (k3:=k3) (k5:=k5) (C:=C) (N:=N) (bm:=tl.map .ref++veB) (bmB:=veB) (mN:=mN) PySem.F.excBase_ValueError (zl0 tl) (L.handled hh) rfl h3 (kj XO EO a hx hd hv ⟨rfl,?_⟩));refine Calls.evalArgs_plain ?_;refine Calls.spliced_cons ?_;refine wpAny_mkText (Calls.spliced_nil ?_);refine j5 rfl (by show 1<=sizeLine;rw[Hc];decide) (a.keep _ _ h1) (h2.keeps a.keep) (h4.keeps a.keep) (λh' e hm hz=>?_);have kp:∀b o,s.heap.get? b=some o->h'.get? b=some o:=hm.keeps;refine zh hm.there λtu he _ _=>?_;have st:Step E0 Y s Y { s with heap:=h',toks:=s.toks+1 }:=.grown Y _ kp hz;have a':At X Y { s with heap:=h',toks:=s.toks+1 }:=a.grown _ kp;have F':=F.step a st;have ex:∃vs,h'.get? e=some (exO C vs):=⟨_,he⟩
 exact qo C l Y e h' rfl ⟨λo eo=>(by rw[show s.heap.get? e=none from hm.new] at eo;cases eo),FB.w9 F' ex⟩ a' F' (st.weaken FB.wP) ⟨λb o eb _=>⟨o.slots,eb⟩,λb o eb _ _=>eb,ex,fN _,_,he,.inl rfl⟩ q
end
section
variable{M:Model}{A:Around}{E:Value->Shared->Prop}{h:Heap}{g:Array GenState}{d:Drawn}{t:Nat}{os:OsState}{C':Addr}{tl tl':List Addr}
theorem zmp{e c:Addr}{oe:Obj}{Q:Bool->Shared->Prop}(hC:ExcCls h c tl)(hC':ExcCls h C' tl')(he:h.get? e=some oe)(hcls:oe.cls = .ref c)(hq:Q ((Value.ref c::(tl.map Value.ref++veB)).contains (.ref C')) ⟨h,g,d,t,os⟩):wpAny M A (excMatches (.ref e) (.ref C')) Q E ⟨h,g,d,t,os⟩:=by
 refine qN hC.ex λnmC qC N bs hdct sn sub ab col dd k0 k1 k2 k3 k5 mN h1 _=>?_;refine qN hC'.ex λnmC' qC' N' bs' hdct' sn' sub' ab' col' dd' k0' k1' k2' k3' k5' mN' h1' _=>?_;have hcB:(Value.ref C'::(tl'.map Value.ref++veB)).contains (.type "BaseException")=true:=by rw[List.contains_cons,zl0,Bool.or_true]
 have f:=tc_notTuple
 repeat (first|(with_reducible refine wpAny_loadPart_at he ?_;rw[hcls])|with_reducible refine wpAny_loadPart_at h1' ?_|(with_reducible refine wpAny_isSubtype_exc h1' ?_;rw[hcB])|with_reducible refine wpAny_isSubtype_exc h1 ?_|wp_step)
 generalize (Value.ref c::(tl.map Value.ref++veB)).contains (.ref C')=b at hq ⊢;cases b<;>(wp_walk;exact hq)
end
theorem ExcCls.keeps{h h':Heap}{C:Addr}{tl:List Addr}(x:ExcCls h C tl)(k:∀b o,h.get? b=some o->h'.get? b=some o):ExcCls h' C tl:=by
 refine ql x.ex λnmC qC N bs hdct sn sub ab col dd k0 k1 k2 k3 k5 mN h1 h2 h3 h4=>?_;exact⟨nmC,qC,N,bs,hdct,sn,sub,ab,col,dd,k0,k1,k2,k3,k5,mN,k _ _ h1,h2.keeps k,h3,h4.keeps k⟩
section
variable{X:Cx}{env:Env}{nm:List (Str×Nat)}{l:Loc}{Y:AHeap}{s:Shared}
theorem FR.fly{g:Heap}{x c:Addr}(F:FR X env nm l Y g)(f:Fly X Y g x c s.heap):FR X env nm l Y s.heap:=by
 have kv:=f.keepV;have hne:=FB.w9 F f.exg;refine zb F.ns λm h9_1 hm=>?_;refine jt h9_1 λo es ep ho hd r=>?_;obtain⟨sl,ho'⟩:=f.keepS _ _ ho λq=>hne (.inl q.symm);have cellK:∀y b o v,(y,b)∈env.cells->g.get? b=some o->o.data = .cell v->s.heap.get? b=some o:=λy b o v hy e hd=>f.keepX b o e (λq=>hne (.inr ⟨y,q▸hy⟩)) (.inl λes n q=>by rw[hd] at q;cases q);refine⟨(zc m (ky _ es ep ho' hd r) (λy i hy hk=>(hm y i hy hk).mono kv)),λy i hy hk=>?_,F.out,F.nmok,F.len,λy b hy=>?_⟩
 .refine zm (F.cell y i hy hk) λb v hc h11_3 hr=>?_;refine zb h11_3 λo ho hd=>?_;exact zN b v hc (zc o (cellK y b o v (mem_of_lookup hc) ho hd) hd) (hr.mono kv)
 .refine kN (F.outc y b hy) λh1 h2 v h12_3=>?_;refine zb h12_3 λo ho hd=>?_;exact zay h1 h2 v (zc o (cellK y b o v hy ho hd) hd)
end
section
variable{X:Cx}{env:Env}{nm:List (Str×Nat)}
theorem zqA{Y Y1:AHeap}{s s1:Shared}{g h:Heap}{x c:Addr}(a:At X Y s)(a1:At X Y1 { s1 with heap:=g })(hx:New Y s x)(f:Fly X Y1 g x c h):X.h₀.get? x=none:=by
 cases e:X.h₀.get? x with
 | none=>rfl
 | some o=>
  have e1:=a.keep _ _ e;have h1:=hx _ e1;obtain⟨vs,h2⟩:=f.exg;have h5:g.get? x=some o:=a1.keep _ _ e;rw[h5] at h2;obtain rfl:=Hy h2;exact absurd (a.stays e1 (.inr (.inr (zaA c vs rfl rfl)))) h1
def zxH(env:Env)(nm:List (Str×Nat))(name:Option Str)(i:Option Nat):Prop:=match name,i with
 | none,none=>True
 | _,_=>False
theorem znB{body:List Stmt}{T:Str}{tp hpos pos:Pos}{name:Option Str}{b0:Stmt}{bs:List Stmt}{C':Addr}{tl' hits:List Addr}{i:Option Nat}{m h:AS}(XO:X.Ok)(EO:EnvOk env)(htop:X.top=some env)
  (hT:env.kindOf T=some .globalImplicit)(hdb:(T==("__debug__" : Str))=false)(hv:X.mg T=some (.ref C'))(hC':ExcCls X.h₀ C' tl')(hh:∀c∈hits,∃tl,ExcCls X.h₀ c tl/\(Value.ref c::(tl.map Value.ref++veB)).contains (.ref C')=true)
  (hn:zxH env nm name i)(hb:j8 X env nm body m)(hs:j8 X env nm (b0::bs) h) :
  jr X env nm (.Try body [.ExceptHandler (some (.Name T tp)) name (b0::bs) hpos] [] [] pos) (A.vH m hits i h):=λd A l Y s Q Z L a F q=>by
 obtain⟨hd,q⟩:=kL q;refine wpAny_Try_except (Ha (hb d A l Y s _ _ L a F q) (λf s1 x=>?_) λe s1 x=>?_)
 .cases f with
  | next=>exact wpAny_execs_nil x
  | ret v=>exact x
  | brk=>exact x
  | cont=>exact x
 obtain⟨c,l1,Y1,x,g,rfl,⟨hx,hfb⟩,a1,F1,st1,f,z⟩:=x;obtain⟨hc,z⟩:=qG z;obtain⟨tl,hCc,hin⟩:=hh c (List.contains_iff_mem.mp hc);obtain⟨envs,hfr,FO,ht⟩:=L.frames;obtain⟨outer,rfl⟩:=ht env htop;obtain⟨_,Lf,hf,_⟩:=FO.is env fA;have Fo:=zjI FO a1 f;have hx0:=zqA a a1 hx f;refine Fly.note FO hfr hf a1 f λh2 f2 t2=>?_;refine FlyB.vJ (s:={ s1 with heap:=h2 }) Fo f2 t2 λh3 f3 t3=>?_;have a3:At X Y1 { s1 with heap:=h3 }:=Fly.at (s:={ s1 with heap:=h3 }) FO.out a1 hx0 f3;obtain⟨vs,he,_⟩:=f3.exh;have LM:Live X ⟨d.n,true⟩ (A.mark (some (.ref x))):=⟨L.depth,L.units,(λq=>nomatch q),L.small,_,hfr,FO,λe he=>ht e he⟩
 refine wpAny_handleBy_cons (codeAny_handlers_test (kj XO EO a3 hT hdb hv ?_)) (by intro q;cases q);refine zmp (hCc.keeps a3.keep) (hC'.keeps a3.keep) he rfl ?_;rw[hin];cases name with
 | none=>
  cases i with
  | some _=>exact hn.elim
  | none=>
   refine codeAny_handlers_suite (FlyB.vJ (s:={ s1 with heap:=h3 }) Fo f3.b t3 λh4 f4 t4=>?_);have a4:At X Y1 { s1 with heap:=h4 }:=Fly.at (s:={ s1 with heap:=h4 }) FO.out a1 hx0 f4;have F4:=FR.fly (s:={ s1 with heap:=h4 }) F1 f4;have st4:Step (FB env) Y s Y1 { s1 with heap:=h4 }:=Fly.step (s:={ s1 with heap:=h4 }) hx st1 f4;exact Ha (hs ⟨d.n,true⟩ _ l1 Y1 _ _ _ LM a4 F4 z) (λfl s5 y=>y.back st4) λ_ _ y=>zth y
 | some n=>cases i<;>exact hn.elim
end
noncomputable def nsB(K:Frag)(N:Addr):Bool:=match K.lookup N with
 | some o=>(match o.data with
  | .dict es _=>es.all (λe=>match e.key with
   | .str _ _=>true
   | _=>false)&&(nsFind es "__init__").isNone
  | _=>false)
 | none=>false
theorem zpk{K:Frag}{N:Addr}{h:Heap}(X:K.In h)(e:nsB K N=true):∃m,h.Ns N m/\m "__init__" = none:=by
 unfold nsB at e;split at e
 .rename_i o ho
  split at e
  .rename_i es n hd
   obtain⟨e1,e2⟩:=gA.mp e;refine zc _ (jV o es n (X _ _ ho) hd (λx hx=>?_) (λ_=>rfl)) (Option.isNone_iff_eq_none.mp e2);have hx:=Array.all_eq_true_iff_forall_mem.mp e1 x hx;cases hk:x.key<;>rw[hk] at hx<;>first|exact⟨_,_,rfl⟩|cases hx
  .cases e
 .cases e
noncomputable def zuq(K:Frag)(A:Addr):Bool:=match K.lookup A with
 | some o=>(match o.data with
  | .cls cd=>nsB K cd.ns
  | _=>false)
 | none=>false
noncomputable def sl6(sl:Array (Option Value)):Bool:=match sl.toList with
 | [_,_,_,_,k,_]=>k==some (.builtin "ValueError.__new__")
 | _=>false
theorem ztt{l:List (Option Value)}(h:sl6 ⟨l⟩=true):∃k0 k1 k2 k3 k5,l=[k0,k1,k2,k3,some (.builtin "ValueError.__new__"),k5]:=by
 cases l with
 | nil=>exact nob h
 | cons k0 l=>cases l with
  | nil=>exact nob h
  | cons k1 l=>cases l with
   | nil=>exact nob h
   | cons k2 l=>cases l with
    | nil=>exact nob h
    | cons k3 l=>cases l with
     | nil=>exact nob h
     | cons k4 l=>cases l with
      | nil=>exact nob h
      | cons k5 l=>cases l with
       | nil=>exact⟨k0,k1,k2,k3,k5,congrArg (λk=>[k0,k1,k2,k3,k,k5]) (H3 h)⟩
       | cons k6 l=>exact nob h
noncomputable def zuu(K:Frag)(C:Addr)(tl:List Addr):Bool:=tl.all (zuq K)&&(match K.lookup C with
 | some o=>o.cls==.type "type"&&sl6 o.slots&&(match o.data with
  | .cls cd=>cd.mro==.ref C::(tl.map .ref++veB)&&!cd.hasDel&&nsB K cd.ns
  | _=>false)
 | none=>false)
theorem zgB{K:Frag}{C:Addr}{tl:List Addr}{h:Heap}(X:K.In h)(e:zuu K C tl=true):ExcCls h C tl:=by
 obtain⟨e0,e1⟩:=gA.mp e;clear e;have tail:OwnTail h veB (tl.map .ref++veB):=by
  clear e1
  induction tl with
  | nil=>exact .base
  | cons A r ih=>
   obtain⟨e1,e2⟩:=gA.mp e0;unfold zuq at e1;split at e1
   .rename_i o ho
    split at e1
    .rename_i cd hd
     refine zb (zpk X e1) λm hn hi=>?_;obtain⟨oc,od,oda,osl⟩:=o;cases hd;exact .own (X _ _ ho) hn hi (ih e2)
    .cases e1
   .cases e1
 split at e1
 .rename_i o ho
  obtain⟨e2,e3⟩:=gA.mp e1;obtain⟨e4,e5⟩:=gA.mp e2;clear e1 e2;obtain⟨oc,od,oda,⟨osl⟩⟩:=o;cases oda with
  | cls cd=>
   obtain⟨e6,e7⟩:=gA.mp e3;obtain⟨e8,e9⟩:=gA.mp e6;clear e3 e6;refine zb (zpk X e7) λm hn hi=>?_;have f1:oc = .type "type":=H3 e4;have f2:cd.mro = .ref C::(tl.map .ref++veB):=H3 e8;clear e4 e8;subst f1;refine zec (ztt e5) λk0 k1 k2 k3 k5 f3=>?_;clear e5;subst f3;obtain⟨c1,c2,c3,c4,c5,c6,c7,c8,c9,c10,c11⟩:=cd;dsimp only at f2 e9 hn;subst f2;cases c11 with
   | true=>cases e9
   | false=>exact⟨_,_,_,_,_,_,_,_,_,_,_,_,_,_,_,m,X _ _ ho,hn,hi,tail⟩
  | _=>cases e3
 .cases e1
structure ExcIs(K:Frag)(D:Addr)(tl:List Addr):Prop where
 b:zuu K D tl=true
 hg:findIn K (.ref D) "__getattribute__" = some (some (.builtin "BaseException.__getattribute__"))
 hg2:findIn K (.ref D) "__getattr__" = some none
 hf:findObj K D none "__class__" = some (.bind (.builtin "getset_descriptor.__get__") (.builtin "object.__class__"))
 hm:mroIn K D (.type "object")=some true
 hmB:mroIn K D (.type "BaseException")=some true
namespace A
end A
section
variable{X:Cx}{K:Frag}{env:Env}{nm:List (Str×Nat)}
end
def zdY(Y:AHeap)(x y:AV)(t:Bool):Prop:=∃a b,Rd Y x a/\Rd Y y b/\a.depth<=100/\b.depth<=100/\ltD a b=some t
def zdX(xs:List AV):Prop:=(∀x∈xs,∃i r,x = .tup (.int i::r))\/∀x∈xs,∃i,x = .int i
@[irreducible] noncomputable def zf4(r:Bool)(xs:List AV)(Q:zl)(Y:AHeap):Prop:=∃V:AV->Nat,zdX xs/\(∀x∈xs,∀y∈xs,zdY Y x y (decide (V x<V y)))/\∀ys,ys.Perm xs->ys.Pairwise (λx y=>V x<=V y)->mkL r ys Q Y
def q6:zbK:=λr as Q Y=>zat as λx=>zt (jf Y x) λxs=>zf4 r xs Q Y
noncomputable def zkU:AV->Nat
 | .tup l=>l.length
 | _=>0
@[irreducible] noncomputable def zcL(r:Bool)(xs:List AV)(Q:zl)(Y:AHeap):Prop:=(∀x∈xs,∃l,x = .tup l)/\∀ys,ys.Perm xs->ys.Pairwise (λx y=>zkU x<=zkU y)->mkL r ys Q Y
@[irreducible] noncomputable def zeU(X:Cx)(f:Addr)(r:Bool)(d:Dp)(xs:List AV)(Q:zl)(Y:AHeap):Prop:=∃(key:AV->AV) (V:AV->Nat),d.n<590/\(∀x∈xs,CallOk X f ⟨d.n+1,d.hd⟩ [x] (λk Y'=>k=key x/\Y'=Y) (λ_ _=>False) Y)/\(∀x∈xs,∃i r,key x = .tup (.int i::r))/\
 (∀x∈xs,∀y∈xs,zdY Y (key x) (key y) (decide (V x<V y)))/\∀ys,ys.Perm xs->ys.Pairwise (λx y=>V x<=V y)->mkL r ys Q Y
namespace A
def w6(r:Bool)(m:AE):AE:=λd l Q Z Y=>w3 d (m d l (λv Y1=>zt (jf Y1 v) λxs=>zcL r xs Q Y1) Z Y)
def w4(X:Cx)(f:Addr)(r:Bool)(m:AE):AE:=λd l Q Z Y=>w3 d (m d l (λv Y1=>zt (jf Y1 v) λxs=>zeU X f r d xs Q Y1) Z Y)
end A
structure SB(κ:SortKind)(a₀:Array Hv)(st:SortSt):Prop where
 perm:(Hu st).Perm a₀
 kind:kindOf st=κ
 failed:failedOf st=none
noncomputable def Rk(V:Hv->Nat)(xs:Array Hv)(i:Nat):Nat:=match xs[i]? with|some p=>V p|none=>0
def Srt(V:Hv->Nat)(xs:Array Hv)(a b:Nat):Prop:=∀i j,a<=i->i<=j->j<b->Rk V xs i<=Rk V xs j
def Dsc(V:Hv->Nat)(xs:Array Hv)(a b:Nat):Prop:=∀i j,a<=i->i<=j->j<b->Rk V xs j<=Rk V xs i
def Out(xs ys:Array Hv)(a b:Nat):Prop:=∀k,(k<a\/b<=k)->ys[k]? = xs[k]?
theorem j3{V:Hv->Nat}{xs ys:Array Hv}{i j:Nat}(h:xs[i]? = ys[j]?):Rk V xs i=Rk V ys j:=by unfold Rk;rw[h]
theorem zfu{V:Hv->Nat}{xs:Array Hv}{src d:Nat}(hs:src<xs.size)(hd:d<=src)(k:Nat) :
  Rk V (bubble xs src d) k=if k=src-d then Rk V xs src else if src-d<k/\k<=src then Rk V xs (k-1) else Rk V xs k:=by
 have e:=getElem?_bubble hs d hd k;split at e
 .rw[if_pos (by assumption)];exact j3 e
 .rw[if_neg (by assumption)];split at e
  .rw[if_pos (by assumption)];exact j3 e
  .rw[if_neg (by assumption)];exact j3 e
theorem zcS{V:Hv->Nat}{xs:Array Hv}{i j:Nat}(hj:j<=xs.size)(k:Nat) :
  Rk V (mirror xs i j ((j-i)/2)) k=if i<=k/\k<j then Rk V xs (i+j-1-k) else Rk V xs k:=by
 have e:=getElem?_mirror_all (i:=i) hj k;split at e
 .rw[if_pos (by assumption)];exact j3 e
 .rw[if_neg (by assumption)];exact j3 e
theorem zas{V:Hv->Nat}{xs:Array Hv}{i j:Nat}(hj:j<=xs.size)(he:∀k,i<=k->k<j->Rk V xs k=Rk V xs (j-1))(k:Nat):Rk V (mirror xs i j ((j-i)/2)) k=Rk V xs k:=by
 rw[zcS hj];split
 .rw[he _ (zAM (by assumption)) (zAL (by assumption)),he k (zAK (by assumption)) (zAR (by assumption))]
 .rfl
theorem Out.refl(xs:Array Hv)(a b:Nat):Out xs xs a b:=λ_ _=>rfl
theorem Out.trans{xs ys zs:Array Hv}{a b:Nat}(h:Out xs ys a b)(h':Out ys zs a b):Out xs zs a b:=λk hk=>(h' k hk).trans (h k hk)
theorem Out.wide{xs ys:Array Hv}{a b a' b':Nat}(h:Out xs ys a b)(h1:a'<=a)(h2:b<=b'):Out xs ys a' b':=λk hk=>h k (zDs h1 h2 hk)
theorem zaG{xs:Array Hv}{i j:Nat}(hj:j<=xs.size):Out xs (mirror xs i j ((j-i)/2)) i j:=λk hk=>by
 rw[getElem?_mirror_all hj,if_neg (zAP hk)]
theorem zkg{xs:Array Hv}{src d:Nat}(hs:src<xs.size)(hd:d<=src):Out xs (bubble xs src d) (src-d) (src+1):=λk hk=>by
 rw[getElem?_bubble hs d hd,if_neg (zAJ hk),if_neg (zAQ hk)]
theorem SB.size{κ:SortKind}{a₀:Array Hv}{st:SortSt}(h:SB κ a₀ st):(Hu st).size=a₀.size:=h.perm.size_eq
theorem SB.setArr{κ:SortKind}{a₀:Array Hv}{st:SortSt}(h:SB κ a₀ st){xs:Array Hv}(hp:xs.Perm (Hu st)):SB κ a₀ (PyProof.Rows.setArr st xs):=⟨hp.trans h.perm,h.kind,h.failed⟩
theorem SB.at_{κ:SortKind}{a₀:Array Hv}{st:SortSt}(h:SB κ a₀ st){i:Nat}(hi:i<a₀.size):∃p,(Hu st)[i]? = some p/\p∈a₀.toList:=by
 have hi':i<(Hu st).size:=by rw[h.size];exact hi
 exact zc ((Hu st)[i]) (getElem?_pos _ i hi') ((fAE.mp h.perm).mem_iff.mp (by simp))
def qK(prog:Hj)(w:World)(A:Around)(s:Shared)(κ:SortKind)(V:Hv->Nat)(a₀:Array Hv):Prop:=
 ∀p q,p∈a₀.toList->q∈a₀.toList->∀(Q:Bool->Shared->Prop) (E:Value->Shared->Prop),Q (decide (V p<V q)) s->wpAny (model prog w) A (keyLt' κ p.1 q.1) Q E s
section
variable{prog:Hj}{w:World}{A:Around}{E:Value->Shared->Prop}{s:Shared}{a₀:Array Hv}{κ:SortKind}{V:Hv->Nat}
theorem zpG(H:qK prog w A s κ V a₀){st:SortSt}(hB:SB κ a₀ st){p q:Hv}(hp:p∈a₀.toList)(hq:q∈a₀.toList){Q:Option Bool->SortSt->Prop}(h:Q (some (decide (V p<V q))) st):wpS (model prog w) A E s (lt' p q) Q st:=by
 rw[lt'_eq];refine Hn (wpS_get ?_);rw[hB.kind];refine Hn (wpS_lift (wpAny_attempt (H p q hp hq _ _ ⟨rfl,?_⟩)));exact Ho h
theorem je{arr:Array Hv}{i:Nat}{p:Hv}{st:SortSt}{Q:Hv->SortSt->Prop}(hp:arr[i]? = some p)(h:Q p st):wpS (model prog w) A E s (elem' arr i) Q st:=by
 rw[elem'_eq,hp];exact Ho h
theorem zeR(H:qK prog w A s κ V a₀){st:SortSt}(hB:SB κ a₀ st){i j:Nat}(hi:i<a₀.size)(hj:j<a₀.size){Q:Option Bool->SortSt->Prop}(h:Q (some (decide (Rk V (Hu st) i<Rk V (Hu st) j))) st) :
  wpS (model prog w) A E s (ltAt' i j) Q st:=by
 refine zb (hB.at_ hi) λp e1 h1=>?_;refine zb (hB.at_ hj) λq e2 h2=>?_;rw[ltAt'_eq];refine Hn (wpS_get ?_);refine Hn (je e1 (Hn (je e2 (zpG H hB h1 h2 ?_))));unfold Rk at h;rw[e1,e2] at h;exact h
theorem zbw{st:SortSt}{i j:Nat}{Q:Unit->SortSt->Prop}(h:Q () (setArr st (mirror (Hu st) i j ((j-i)/2)))):wpS (model prog w) A E s (reverseSlice' i j) Q st:=by
 rw[reverseSlice'_eq];exact wpS_modify h
end
noncomputable def upL(lo a nrem:Nat):StateT SortSt Sem AscSt:=
 forIn [a:nrem] ((none,a):AscSt) λ_ r=>do
  let x <-ltAt' (lo+r.snd) (lo+r.snd-1)
  match x with
  | some smaller=>if smaller=true then pure (ForInStep.done (none,r.snd)) else pure (ForInStep.yield (none,r.snd+1))
  | _=>pure (ForInStep.done (some none,r.snd))
noncomputable def zoi(lo n nrem:Nat):StateT SortSt Sem (Option Nat):=do
 reverseSlice' lo (lo+n)
 let r <-upL lo n nrem
 match r.fst with
 | some r=>pure r
 | none=>pure (some r.snd)
noncomputable def zld(lo n nrem:Nat):StateT SortSt Sem DescSt:=
 forIn [n:nrem] ((none,n,0):DescSt) λ_ r=>do
  let x <-ltAt' (lo+r.snd.fst) (lo+r.snd.fst-1)
  match x with
  | some smaller=>
   if smaller=true then
    if r.snd.snd>0 then do
     reverseSlice' (lo+r.snd.fst-(r.snd.snd+1)) (lo+r.snd.fst)
     pure (ForInStep.yield (none,r.snd.fst+1,0))
    else pure (ForInStep.yield (none,r.snd.fst+1,0))
   else do
    let x <-ltAt' (lo+r.snd.fst-1) (lo+r.snd.fst)
    match x with
    | some larger=>
     if larger=true then pure (ForInStep.done (none,r.snd.fst,r.snd.snd))
     else pure (ForInStep.yield (none,r.snd.fst+1,r.snd.snd+1))
    | _=>pure (ForInStep.done (some none,r.snd.fst,r.snd.snd))
  | _=>pure (ForInStep.done (some none,r.snd.fst,r.snd.snd))
noncomputable def zhP(lo n nrem:Nat):StateT SortSt Sem (Option Nat):=do
 liftM (rule "list.sort.descending-run")
 let r <-zld lo (n+1) nrem
 match r.fst with
 | some r=>pure r
 | none=>
  if r.snd.snd>0 then do
   reverseSlice' (lo+r.snd.fst-(r.snd.snd+1)) (lo+r.snd.fst)
   zoi lo r.snd.fst nrem
  else zoi lo r.snd.fst nrem
theorem zhN(lo nrem:Nat):countRun' lo nrem=(do
  let r <-upL lo 1 nrem
  match r.fst with
  | some r=>pure r
  | none=>
   if (r.snd==nrem)=true then pure (some r.snd)
   else if r.snd>1 then do
    let x <-ltAt' lo (lo+r.snd-1)
    match x with
    | some rose=>if rose=true then pure (some r.snd) else do
      reverseSlice' lo (lo+r.snd)
      zhP lo r.snd nrem
    | _=>pure none
   else zhP lo r.snd nrem):=by
 rw[countRun'_eq];unfold zhP zoi zld upL;dsimp only
 congr 1
 funext r
 obtain⟨r,n⟩:=r;cases r with
 | some r=>rfl
 | none=>
  dsimp only;split
  .rfl
  .split
   .congr 1
    funext x
    cases x with
    | none=>rfl
    | some rose=>
     dsimp only;split
     .rfl
     .congr 1
      funext _r
      congr 1;funext _u;congr 1;congr 1;funext s2;obtain⟨r2,n2,q2⟩:=s2
      cases r2 with
      | some r2=>rfl
      | none=>
       dsimp only;split
       .congr 1;funext _v;congr 1;funext _w;congr 1;funext s3;obtain⟨r3,n3⟩:=s3;cases r3<;>rfl
       .congr 1;funext _w;congr 1;funext s3;obtain⟨r3,n3⟩:=s3;cases r3<;>rfl
   .congr 1;funext _u;congr 1;congr 1;funext s2;obtain⟨r2,n2,q2⟩:=s2
    cases r2 with
    | some r2=>rfl
    | none=>
     dsimp only;split
     .congr 1;funext _v;congr 1;funext _w;congr 1;funext s3;obtain⟨r3,n3⟩:=s3;cases r3<;>rfl
     .congr 1;funext _w;congr 1;funext s3;obtain⟨r3,n3⟩:=s3;cases r3<;>rfl
section
variable{prog:Hj}{w:World}{A:Around}{E:Value->Shared->Prop}{s:Shared}{a₀:Array Hv}{κ:SortKind}{V:Hv->Nat}
theorem Srt.snoc{xs:Array Hv}{lo x:Nat}(h:Srt V xs lo (lo+x))(hx:1<=x)(h':Rk V xs (lo+x-1)<=Rk V xs (lo+x)):Srt V xs lo (lo+(x+1)):=λi j hi hij hj=>by
 by_cases hjx:j<lo+x
 .exact h i j hi hij hjx
 .have e:j=lo+x:=by exact zwL hj hjx
  subst e
  by_cases hi':i=lo+x
  .rw[hi'];exact fN _
  .exact fE (h i (lo+x-1) hi (zwQ hij hi') (ztL hx)) h'
theorem Dsc.snoc{xs:Array Hv}{lo x:Nat}(h:Dsc V xs lo (lo+x))(hx:1<=x)(h':Rk V xs (lo+x)<=Rk V xs (lo+x-1)):Dsc V xs lo (lo+(x+1)):=λi j hi hij hj=>by
 by_cases hjx:j<lo+x
 .exact h i j hi hij hjx
 .have e:j=lo+x:=by exact zwL hj hjx
  subst e
  by_cases hi':i=lo+x
  .rw[hi'];exact fN _
  .exact fE h' (h i (lo+x-1) hi (by exact zwQ hij hi') (ztL hx))
theorem zsk(H:qK prog w A s κ V a₀){st:SortSt}{lo a nrem:Nat}{Q:AscSt->SortSt->Prop}(hn:lo+nrem<=a₀.size)(ha:1<=a)(han:a<=nrem)(hB:SB κ a₀ st)(hs:Srt V (Hu st) lo (lo+a))
  (h:∀n,a<=n->n<=nrem->Srt V (Hu st) lo (lo+n)->(n=nrem\/Rk V (Hu st) (lo+n)<Rk V (Hu st) (lo+n-1))->Q (none,n) st):wpS (model prog w) A E s (upL lo a nrem) Q st:=by
 unfold upL;refine Hr (I:=λx c st'=>st'=st/\c=(none,x)/\Srt V (Hu st) lo (lo+x)) ?step ?fin (zo rfl rfl hs)
 case fin=>
  intro c st' hR1;refine zZ hR1 λe7_0 e7_1 hs'=>?_;subst e7_0;subst e7_1;rw[show max a nrem=nrem by exact zwt han] at hs' ⊢;exact h nrem han (fN _) hs' (.inl rfl)
 case step=>
  intro x c st' hax hxn hR2;refine zZ hR2 λe8_0 e8_1 hs'=>?_;subst e8_0;subst e8_1;dsimp only;refine Hn (zeR H hB (zqi hn hxn) (zt1 hn hxn) ?_)
  by_cases hl:Rk V (Hu st') (lo+x)<Rk V (Hu st') (lo+x-1)
  .simp only[hl,decide_true,if_true];exact Ho (h x hax (zhv hxn) hs' (.inr hl))
  .simp only[hl,decide_false,gK,if_false];exact Ho (zo rfl rfl (hs'.snoc (zqd ha hax) (zwA hl)))
structure RunOk(κ:SortKind)(V:Hv->Nat)(a₀:Array Hv)(st:SortSt)(lo nrem m:Nat)(st':SortSt):Prop where
 sb:SB κ a₀ st'
 m1:1<=m
 le:m<=nrem
 srt:Srt V (Hu st') lo (lo+m)
 out:Out (Hu st) (Hu st') lo (lo+nrem)
 pend:Hq st'=Hq st
theorem zpF(H:qK prog w A s κ V a₀){st st₀:SortSt}{lo n nrem:Nat}{Q:Option Nat->SortSt->Prop}(hn:lo+nrem<=a₀.size)(h1:1<=n)(hnn:n<=nrem)(hB:SB κ a₀ st)(hs:Dsc V (Hu st) lo (lo+n))
  (ho:Out (Hu st₀) (Hu st) lo (lo+nrem))(hp:Hq st=Hq st₀)(h:∀m st',RunOk κ V a₀ st₀ lo nrem m st'->Q (some m) st'):wpS (model prog w) A E s (zoi lo n nrem) Q st:=by
 unfold zoi;have hsz:lo+n<=(Hu st).size:=by rw[hB.size];exact zt2 hn hnn
 refine Hn (zbw ?_);have hB':SB κ a₀ (setArr st (mirror (Hu st) lo (lo+n) ((lo+n-lo)/2))):=hB.setArr (mirror_perm _ _ _ _);refine Hn (zsk H hn h1 hnn hB' ?_ λm hm1 hm2 hsm _=>Ho (h m _ ⟨hB',zqd h1 hm1,hm2,hsm,ho.trans ((zaG hsz).wide (fN _) (zqh hnn)),hp⟩));intro i j hi hij hj;show Rk V (mirror (Hu st) lo (lo+n) ((lo+n-lo)/2)) i<=Rk V (mirror (Hu st) lo (lo+n) ((lo+n-lo)/2)) j;rw[zcS hsz,zcS hsz,if_pos (zCE hi hij hj),if_pos (zCG hi hij hj)];exact hs _ _ (zBE hj) (zC0 hij) (zA7 h1 hi)
theorem zro(H:qK prog w A s κ V a₀){st st₀:SortSt}{lo n nrem:Nat}{Q:DescSt->SortSt->Prop}(hn:lo+nrem<=a₀.size)(h1:1<=n)(hnn:n<=nrem)(hB:SB κ a₀ st)(hs:Dsc V (Hu st) lo (lo+n))
  (ho:Out (Hu st₀) (Hu st) lo (lo+nrem))(hp:Hq st=Hq st₀)
  (h:∀m neq st',SB κ a₀ st'->n<=m->m<=nrem->Dsc V (Hu st') lo (lo+m)->neq+1<=m->(∀i,lo+m-(neq+1)<=i->i<lo+m->Rk V (Hu st') i=Rk V (Hu st') (lo+m-1))->
   Out (Hu st₀) (Hu st') lo (lo+nrem)->Hq st'=Hq st₀->Q (none,m,neq) st'):wpS (model prog w) A E s (zld lo n nrem) Q st:=by
 unfold zld;refine Hr (I:=λx c st'=>∃neq,c=(none,x,neq)/\SB κ a₀ st'/\Dsc V (Hu st') lo (lo+x)/\neq+1<=x/\
   (∀i,lo+x-(neq+1)<=i->i<lo+x->Rk V (Hu st') i=Rk V (Hu st') (lo+x-1))/\Out (Hu st₀) (Hu st') lo (lo+nrem)/\Hq st'=Hq st₀) ?step ?fin
  (zaz 0 rfl hB hs (by exact zyA h1) (λi h1 h2=>by congr 1;exact zAN h1 h2) ho hp)
 case fin=>
  intro c st' hR3;refine zd9 hR3 λneq e9_1 hB' hs' hq he ho' hp'=>?_;subst e9_1;rw[show max n nrem=nrem by exact zwt hnn] at hs' hq he ⊢;exact h nrem neq st' hB' hnn (fN _) hs' hq he ho' hp'
 case step=>
  intro x c st' hax hxn hR4;refine zd9 hR4 λneq e10_1 hB' hs' hq he ho' hp'=>?_;subst e10_1;dsimp only;have hsz:lo+x<=(Hu st').size:=by rw[hB'.size];exact zCh hn hxn
  refine Hn (zeR H hB' (zqi hn hxn) (zt1 hn hxn) ?_)
  by_cases hl:Rk V (Hu st') (lo+x)<Rk V (Hu st') (lo+x-1)
  .simp only[hl,decide_true,if_true]
   by_cases hneq:neq>0
   .rw[if_pos hneq];refine Hn (zbw (Ho (zaz 0 rfl (hB'.setArr (mirror_perm _ _ _ _)) ?_ zv2 (λi h1 h2=>by congr 1;exact zwC h1 h2) (ho'.trans ((zaG hsz).wide (zwJ hq) (zBt hxn))) hp')));have e:=zas (V:=V) (i:=lo+x-(neq+1)) hsz he;refine Dsc.snoc (λi j hi hij hj=>?_) (zqd h1 hax) ?_
    .show Rk V (mirror _ _ _ _) j<=Rk V (mirror _ _ _ _) i;rw[e,e];exact hs' i j hi hij hj
    .show Rk V (mirror _ _ _ _) _<=Rk V (mirror _ _ _ _) _;rw[e,e];exact zhv hl
   .rw[if_neg hneq];exact Ho (zaz 0 rfl hB' (hs'.snoc (zqd h1 hax) (zhv hl)) zv2 (λi h1 h2=>by congr 1;exact zwC h1 h2) ho' hp')
  .simp only[hl,decide_false,gK,if_false];refine Hn (zeR H hB' (zt1 hn hxn) (zqi hn hxn) ?_)
   by_cases hg:Rk V (Hu st') (lo+x-1)<Rk V (Hu st') (lo+x)
   .simp only[hg,decide_true,if_true];exact Ho (h x neq st' hB' hax (zhv hxn) hs' hq he ho' hp')
   .simp only[hg,decide_false,gK,if_false];have hx:Rk V (Hu st') (lo+x)=Rk V (Hu st') (lo+x-1):=zAq hl hg;refine Ho (zaz (neq+1) rfl hB' (hs'.snoc (zqd h1 hax) (zwA hg)) (zzG hq) (λi h1 h2=>?_) ho' hp');rw[show lo+(x+1)-1=lo+x by exact zAx]
    by_cases hix:i=lo+x
    .rw[hix]
    .rw[hx];exact he i (zB5 h1) (zBb h2 hix)
theorem zlN(H:qK prog w A s κ V a₀){st st₀:SortSt}{lo n nrem:Nat}{Q:Option Nat->SortSt->Prop}(hn:lo+nrem<=a₀.size)(hnn:n+1<=nrem)(hB:SB κ a₀ st)(hs:Dsc V (Hu st) lo (lo+(n+1)))
  (ho:Out (Hu st₀) (Hu st) lo (lo+nrem))(hp:Hq st=Hq st₀)(h:∀m st',RunOk κ V a₀ st₀ lo nrem m st'->Q (some m) st'):wpS (model prog w) A E s (zhP lo n nrem) Q st:=by
 unfold zhP;refine Hn (wpS_lift (Hd ⟨rfl,?_⟩));refine Hn (zro H hn zzk hnn hB hs ho hp λm neq st' hB' hm1 hm2 hs' hq he ho' hp'=>?_);dsimp only;have hsz:lo+m<=(Hu st').size:=by rw[hB'.size];exact zt2 hn hm2
 by_cases hneq:neq>0
 .rw[if_pos hneq];have e:=zas (V:=V) (i:=lo+m-(neq+1)) hsz he;refine Hn (zbw (zpF H hn (zwg hq) hm2 (hB'.setArr (mirror_perm _ _ _ _)) ?_ (ho'.trans ((zaG hsz).wide (zwJ hq) (zqh hm2))) hp' h));intro i j hi hij hj;show Rk V (mirror _ _ _ _) j<=Rk V (mirror _ _ _ _) i;rw[e,e];exact hs' i j hi hij hj
 .rw[if_neg hneq];exact zpF H hn (zwg hq) hm2 hB' hs' ho' hp' h
theorem zkw(H:qK prog w A s κ V a₀){st:SortSt}{lo nrem:Nat}{Q:Option Nat->SortSt->Prop}(hn:lo+nrem<=a₀.size)(h1:1<=nrem)(hB:SB κ a₀ st)
  (h:∀m st',RunOk κ V a₀ st lo nrem m st'->Q (some m) st'):wpS (model prog w) A E s (countRun' lo nrem) Q st:=by
 rw[zhN];refine Hn (zsk H hn (fN 1) h1 hB (λi j hi hij hj=>by rw[show i=j by exact zwW hi hij hj];exact fN _) λn hn1 hn2 hsn hor=>?_);dsimp only
 by_cases hnn:n=nrem
 .rw[if_pos (by simpa using hnn)];exact Ho (h n st ⟨hB,hn1,hn2,hsn,Out.refl _ _ _,rfl⟩)
 .rw[if_neg (by simpa using hnn)]
  by_cases hgt:n>1
  .rw[if_pos hgt];refine Hn (zeR H hB (zAZ hn h1) (zCi hn hn2 hnn) ?_)
   by_cases hr:Rk V (Hu st) lo<Rk V (Hu st) (lo+n-1)
   .simp only[hr,decide_true,if_true];exact Ho (h n st ⟨hB,hn1,hn2,hsn,Out.refl _ _ _,rfl⟩)
   .simp only[hr,decide_false,gK,if_false];have hsz:lo+n<=(Hu st).size:=by rw[hB.size];exact zt2 hn hn2
    have hall:∀k,lo<=k->k<lo+n->Rk V (Hu st) k=Rk V (Hu st) (lo+n-1):=by
     intro k hk1 hk2;have a1:=hsn lo k zv5 hk1 hk2;have a2:=hsn k (lo+n-1) hk1 (zBc hk2) (ztL hn1);exact zBS hr a1 a2
    have e:=zas (V:=V) (i:=lo) hsz hall;refine Hn (zbw (zlN H hn (zz7 hn2 hnn) (hB.setArr (mirror_perm _ _ _ _)) ?_ ((zaG hsz).wide (fN _) (zqh hn2)) rfl h));refine Dsc.snoc (λi j hi hij hj=>?_) (ztA hn1) ?_
    .show Rk V (mirror _ _ _ _) j<=Rk V (mirror _ _ _ _) i;rw[e,e,hall i (zk0 hi) (zw6 hij hj),hall j (zBo hi hij) (zwM hj)];exact fN _
    .show Rk V (mirror _ _ _ _) _<=Rk V (mirror _ _ _ _) _;rw[e,e];exact zB9 hor hnn
  .rw[if_neg hgt];have hn1':n=1:=zyz hn1 hgt;subst hn1';refine zlN H hn (by exact zyw h1 hnn) hB (Dsc.snoc (λi j hi hij hj=>by rw[show i=j by exact zwW hi hij hj];exact fN _) (fN _) (by exact zAE hor hnn)) (Out.refl _ _ _) rfl h
theorem zyh{l r:Nat}(h:l<r):l<=(l+r)/2/\(l+r)/2<r:=⟨(Nat.le_div_iff_mul_le Nat.two_pos).mpr (Nat.mul_two l▸fAW (fBA h) l),Nat.div_lt_of_lt_mul (Nat.two_mul r▸Nat.add_lt_add_right h r)⟩
theorem zhd(H:qK prog w A s κ V a₀){st:SortSt}{lo n ok:Nat}{Q:Bool->SortSt->Prop}(hn:lo+n<=a₀.size)(hn1:1<=n)(hok:ok<=n)(hB:SB κ a₀ st)(hs:Srt V (Hu st) lo (lo+ok))
  (h:∀st',RunOk κ V a₀ st lo n n st'->Q true st'):wpS (model prog w) A E s (binarySort' lo n ok) Q st:=by
 rw[binarySort'_eq];refine Hn (Hp (Hr (I:=λk c st'=>c=(none,())/\SB κ a₀ st'/\Srt V (Hu st') lo (lo+min k n)/\Out (Hu st) (Hu st') lo (lo+n)/\Hq st'=Hq st)
  (Q:=λc st'=>c=(none,())/\RunOk κ V a₀ st lo n n st') ?step ?fin ?init) ?post)
 case post=>
  rintro c st' ⟨rfl,hR⟩;exact Ho (h st' hR)
 case init=>
  refine jo rfl hB (λi j hi hij hj=>?_) (Out.refl _ _ _) rfl
  by_cases h1:ok=0
  .rw[show i=j by exact zDp hi hij hj h1];exact fN _
  .exact hs i j hi hij (zCt hj h1)
 case fin=>
  intro c st' hR5;refine jC hR5 λhc hB' hs' ho' hp'=>?_;rw[show min (max (max ok 1) n) n=n by exact zAB] at hs';exact⟨hc,hB',hn1,fN _,hs',ho',hp'⟩
 case step=>
  intro k c st' hak hkn hR6;refine jC hR6 λe12_0 hB' hs' ho' hp'=>?_;subst e12_0;rw[show min k n=k by exact zwn hkn] at hs';have hk:lo+k<a₀.size:=zqi hn hkn;refine Hn (Hp (Hr (I:=λx c st''=>st''=st'/\∃l r,c=(none,l,r)/\l<=r/\r<=k/\r-l<=k-x/\
    (∀i,i<l->Rk V (Hu st') (lo+i)<=Rk V (Hu st') (lo+k))/\(∀i,r<=i->i<k->Rk V (Hu st') (lo+k)<Rk V (Hu st') (lo+i)))
   (Q:=λc st''=>st''=st'/\∃l r,c=(none,l,r)/\l<=k/\
    (∀i,i<l->Rk V (Hu st') (lo+i)<=Rk V (Hu st') (lo+k))/\(∀i,l<=i->i<k->Rk V (Hu st') (lo+k)<Rk V (Hu st') (lo+i))) ?istep ?ifin ?iinit) ?ipost)
  case iinit=>exact qg rfl 0 k rfl zv3 zv5 zzj (λi hi=>zBF hi) (λi h1 h2=>zCU h1 h2)
  case ifin=>
   intro c st'' hR7;refine kJ hR7 λe13_0 l r e13_3 hlr hrk hm hlo hhi=>?_;subst e13_0;subst e13_3;have:l=r:=zwR hlr hm;subst this;exact zcZ rfl l l rfl hrk hlo hhi
  case istep=>
   intro x c st'' _ hxk hR8;refine kJ hR8 λe14_0 l r e14_3 hlr hrk hm hlo hhi=>?_;subst e14_0;subst e14_3;dsimp only
   by_cases hge:l>=r
   .rw[if_pos hge];have:l=r:=ztP hlr hge;subst this;exact Ho (zcZ rfl l l rfl hrk hlo hhi)
   .rw[if_neg hge];have hmd:=zyh (Nat.lt_of_not_le hge);generalize (l+r)/2=md at hmd ⊢;have hm1:=hmd.1;have hm2:=hmd.2;clear hmd;refine Hn (zeR H hB' hk (zEo hn hkn hrk hm2) ?_)
    by_cases hless:Rk V (Hu st'') (lo+k)<Rk V (Hu st'') (lo+md)
    .simp only[hless,decide_true,if_true];refine Ho (qg rfl l md rfl (zk0 hm1) (zxn hrk hm2) (zxp hm hm2) hlo (λi h1 h2=>?_));exact pI hless (hs' _ _ zk1 (zqh h1) (ztX h2))
    .simp only[hless,decide_false,gK,if_false];refine Ho (qg rfl (md+1) r rfl (zqe hm2) (zk0 hrk) (zxo hm hm1) (λi h1=>?_) hhi);exact fE (hs' (lo+i) (lo+md) (by exact zk1) (by exact zEk h1) (by exact zEm hrk hm2)) (pQ.mp hless)
  case ipost=>
   intro c st'' hR9;refine zml hR9 λe15_0 l r e15_3 hlk hlo hhi=>?_;subst e15_0;subst e15_3;show wpS _ _ _ _ (do moveDown' (lo+k) (lo+l);pure (ForInStep.yield (none,()))) _ _;rw[moveDown'_eq];have hks:lo+k<(Hu st'').size:=by rw[hB'.size];exact hk
   have hd:lo+k-(lo+l)<=lo+k:=zBX;refine Hn (wpS_modify (Ho (jo rfl (hB'.setArr (bubble_perm _ _ _)) ?_ (ho'.trans ((zkg hks hd).wide zBZ (zBs hkn))) hp')));rw[show min (k+1) n=k+1 by exact zzS hkn];intro i j hi hij hj;show Rk V (bubble (Hu st'') (lo+k) (lo+k-(lo+l))) i<=Rk V (bubble (Hu st'') (lo+k) (lo+k-(lo+l))) j;rw[zfu hks hd,zfu hks hd,show lo+k-(lo+k-(lo+l))=lo+l by exact zBP hlk];have hlo':∀i,lo<=i->i<lo+l->Rk V (Hu st'') i<=Rk V (Hu st'') (lo+k):=λi h1 h2=>by have:=hlo (i-lo) (by exact zwU h1 h2);rwa [show lo+(i-lo)=i by exact ztQ h1] at this
   have hhi':∀i,lo+l<=i->i<lo+k->Rk V (Hu st'') (lo+k)<Rk V (Hu st'') i:=λi h1 h2=>by have:=hhi (i-lo) (by exact zA6 h1) (by exact zCj h1 h2);rwa [show lo+(i-lo)=i by exact zA0 h1] at this
   repeat' split
   all_goals first
    | (exfalso;(first|exact zDm hij hj (by assumption) (by assumption) (by assumption)|exact zDk hij (by assumption) (by assumption)|exact zDl hij hj (by assumption) (by assumption)))
    | exact fN _
    | exact hlo' _ (zk0 hi) (zCI hij (by assumption) (by assumption))
    | exact fBA (hhi' _ (zCZ hij (by assumption) (by assumption)) (zDr hij hj (by assumption) (by assumption)))
    | exact hs' _ _ (by (first|exact zB2 (by assumption)|exact zk0 hi)) (by (first|exact zAa hij|exact zDn hij (by assumption) (by assumption)|exact zk0 hij)) (by (first|exact zDi hj (by assumption)|exact zB4 (by assumption)|exact zCY hlk hj (by assumption) (by assumption)))
end
theorem j7{V:Hv->Nat}{a:Array Hv}(SA:Srt V a 0 a.size):a.toList.Pairwise λx y=>V x<=V y:=by
 rw[fA2];intro i j hi hj hij;have h1:i<a.size:=by simpa using hi
 have h2:j<a.size:=by simpa using hj
 have:=SA i j (fX _) (zhv hij) h2;have e1:Rk V a i=V a.toList[i]:=by unfold Rk;rw[getElem?_pos a i h1];simp
 have e2:Rk V a j=V a.toList[j]:=by unfold Rk;rw[getElem?_pos a j h2];simp
 rw[e1,e2] at this;exact this
noncomputable def zaw:Bool->Hv->Array Hv->Nat->Nat->Nat->StateT SortSt Sem (Option Nat):=sortPriv% PySem.Builtin.gallop
noncomputable def zgl(left:Bool)(key:Hv)(arr:Array Hv)(base i:Nat):StateT SortSt Sem (Option Bool):=do
 let x <-elem' arr (base+i)
 if left then lt' x key else return (<-lt' key x).map (!·)
section
variable{prog:Hj}{w:World}{A:Around}{E:Value->Shared->Prop}{s:Shared}{a₀:Array Hv}{κ:SortKind}{V:Hv->Nat}
noncomputable def byd(left:Bool)(V:Hv->Nat)(key:Hv)(arr:Array Hv)(base i:Nat):Bool:=if left then decide (Rk V arr (base+i)<V key) else !decide (V key<Rk V arr (base+i))
theorem zcJ(H:qK prog w A s κ V a₀){st:SortSt}(hB:SB κ a₀ st){left:Bool}{key:Hv}{arr:Array Hv}{base i:Nat}(hk:key∈a₀.toList)(ha:∀p∈arr.toList,p∈a₀.toList)(hi:base+i<arr.size){Q:Option Bool->SortSt->Prop}
  (h:Q (some (byd left V key arr base i)) st):wpS (model prog w) A E s (zgl left key arr base i) Q st:=by
 have e:arr[base+i]? = some arr[base+i]:=getElem?_pos arr (base+i) hi;have hm:arr[base+i]∈a₀.toList:=ha _ (by simp);have er:Rk V arr (base+i)=V arr[base+i]:=by unfold Rk;rw[e]
 unfold byd at h;rw[er] at h;unfold zgl;refine Hn (je e ?_);cases left with
 | true=>simp only[if_true] at h ⊢;exact zpG H hB hm hk h
 | false=>
  simp only[gK,if_false] at h ⊢;exact Hn (zpG H hB hk hm (Ho h))
theorem zyi{l r:Nat}(h:l<r):l<=l+(r-l)/2/\l+(r-l)/2<r:=⟨fAC _ _,Nat.add_lt_of_lt_sub' (Nat.div_lt_self (Nat.sub_pos_of_lt h) Nat.one_lt_two)⟩
theorem zal(H:qK prog w A s κ V a₀){st:SortSt}(hB:SB κ a₀ st){left:Bool}{key:Hv}{arr:Array Hv}{base n hint:Nat}(hk:key∈a₀.toList)(ha:∀p∈arr.toList,p∈a₀.toList)(hn:base+n<=arr.size)(hh:hint<n)(hs:Srt V arr base (base+n))
  {Q:Option Nat->SortSt->Prop}(h:∀p,p<=n->(∀i,i<p->byd left V key arr base i=true)->(∀i,p<=i->i<n->byd left V key arr base i=false)->Q (some p) st):wpS (model prog w) A E s (zaw left key arr base n hint) Q st:=by
 have mono:∀i j,i<=j->j<n->byd left V key arr base j=true->byd left V key arr base i=true:=λi j hij hj=>by
  have:=hs (base+i) (base+j) zk1 (zqh hij) (ztX hj);unfold byd;cases left
  .simp only[gK,if_false,fB1,decide_eq_false_iff_not];exact zBQ this
  .simp only[if_true,decide_eq_true_eq];exact zBL this
 have mono':∀i j,i<=j->j<n->byd left V key arr base i=false->byd left V key arr base j=false:=λi j hij hj hi=>by
  cases hb:byd left V key arr base j with
  | false=>rfl
  | true=>rw[mono i j hij hj hb] at hi;cases hi
 have bin:∀(lo hi:Nat),lo<=hi->hi<=n->(∀i,i<lo->byd left V key arr base i=true)->(∀i,hi<=i->i<n->byd left V key arr base i=false)->∀{Q':(Option (Option Nat)×Nat×Nat)->SortSt->Prop},
   (∀p q,p<=n->(∀i,i<p->byd left V key arr base i=true)->(∀i,p<=i->i<n->byd left V key arr base i=false)->Q' (none,q,p) st)->
   wpS (model prog w) A E s (forIn [0:n] ((none,lo,hi):Option (Option Nat)×Nat×Nat) λ_ r=>do
    if r.2.1>=r.2.2 then pure (ForInStep.done (none,r.2.1,r.2.2)) else do
     let x <-zgl left key arr base (r.2.1+(r.2.2-r.2.1)/2)
     match x with
     | some more=>if more=true then pure (ForInStep.yield (none,r.2.1+(r.2.2-r.2.1)/2+1,r.2.2)) else pure (ForInStep.yield (none,r.2.1,r.2.1+(r.2.2-r.2.1)/2))
     | _=>pure (ForInStep.done (some none,r.2.1,r.2.2))) Q' st:=by
  intro lo hi hlh hhn hlo hhi Q' hQ;refine Hr (I:=λx c st'=>st'=st/\∃l r,c=(none,l,r)/\l<=r/\r<=n/\r-l<=n-x/\(∀i,i<l->byd left V key arr base i=true)/\(∀i,r<=i->i<n->byd left V key arr base i=false)) ?step ?fin (qg rfl lo hi rfl hlh hhn (zBp hhn) hlo hhi)
  case fin=>
   intro c st' hR1;refine kJ hR1 λe0_0 l r e0_3 h1 h2 h3 h4 h5=>?_;subst e0_0;subst e0_3;have:l=r:=zwR h1 h3;subst this;exact hQ l l h2 h4 h5
  case step=>
   intro x c st' _ hx hR2;refine kJ hR2 λe1_0 l r e1_3 h1 h2 h3 h4 h5=>?_;subst e1_0;subst e1_3;dsimp only
   by_cases hge:l>=r
   .rw[if_pos hge];have:l=r:=ztP h1 hge;subst this;exact Ho (hQ l l h2 h4 h5)
   .rw[if_neg hge];have hmd:=zyi (Nat.lt_of_not_le hge);generalize l+(r-l)/2=md at hmd ⊢;have hm1:=hmd.1;have hm2:=hmd.2;clear hmd;refine Hn (zcJ H hB hk ha (zEn hn h2 hm2) ?_);dsimp only;cases hb:byd left V key arr base md with
    | true=>
     exact Ho (qg rfl _ r rfl (zqe hm2) h2 (zxo h3 hm1) (λi hi=>mono i _ (ztN hi) (zEl h2 hm2) hb) h5)
    | false=>
     exact Ho (qg rfl l _ rfl (zk0 hm1) (zxn h2 hm2) (zxp h3 hm2) h4 (λi h6 h7=>mono' _ i h6 h7 hb))
 refine Hn (zcJ H hB hk ha (zqi hn hh) ?_);dsimp only;cases hb:byd left V key arr base hint with
 | true=>
  refine Hn (Hp (Hr (I:=λx c st'=>st'=st/\∃a b,c=(none,a,b)/\a<b/\x+1<=b/\hint+a<n/\byd left V key arr base (hint+a)=true)
   (Q:=λc st'=>st'=st/\∃a b,c=(none,a,b)/\a<b/\hint+a<n/\byd left V key arr base (hint+a)=true/\(b>=n-hint\/byd left V key arr base (hint+b)=false)) ?step ?fin (jj rfl 0 1 rfl y4 y1 (zzT hh) (by simpa using hb))) ?post)
  case fin=>
   intro c st' hR3;refine qB hR3 λe2_0 a b e2_3 h1 h2 h3 h4=>?_;subst e2_0;subst e2_3;exact jj rfl a b rfl h1 h3 h4 (.inl (zAF h2))
  case step=>
   intro x c st' _ hx hR4;refine qB hR4 λe3_0 a b e3_3 h1 h2 h3 h4=>?_;subst e3_0;subst e3_3;dsimp only
   by_cases hge:b>=n-hint
   .rw[if_pos hge];exact Ho (jj rfl a b rfl h1 h3 h4 (.inl hge))
   .rw[if_neg hge];refine Hn (zcJ H hB hk ha (zDf hn hge) ?_);dsimp only;cases hb':byd left V key arr base (hint+b) with
    | true=>exact Ho (jj rfl b _ rfl zv4 (zwd h2) (zBR hge) hb')
    | false=>exact Ho (jj rfl a b rfl h1 h3 h4 (.inr hb'))
  case post=>
   intro c st' hR5;refine qB hR5 λe4_0 a b e4_3 h1 h3 h4 h5=>?_;subst e4_0;subst e4_3;dsimp only;refine Hn (bin _ _ (zCJ h1 h3) (zBd hh) (λi hi=>mono i (hint+a) (zBa hi) h3 h4) (λi h6 h7=>?_) λp q hp hq1 hq2=>Ho (h p hp hq1 hq2))
   rcases h5 with h5|h5
   .exact absurd h7 (zxB h5 h6)
   .rcases Nat.lt_or_ge b (n-hint) with h8|h8
    .exact mono' (hint+b) i (zCc h6 h8) h7 h5
    .exact absurd h7 (zxB h8 h6)
 | false=>
  refine Hn (Hp (Hr (I:=λx c st'=>st'=st/\∃a b,c=(none,a,b)/\a<b/\x+1<=b/\a<=hint/\byd left V key arr base (hint-a)=false)
   (Q:=λc st'=>st'=st/\∃a b,c=(none,a,b)/\a<b/\a<=hint/\byd left V key arr base (hint-a)=false/\(b>=hint+1\/byd left V key arr base (hint-b)=true)) ?step2 ?fin2 (jj rfl 0 1 rfl y4 y1 zv3 (by simpa using hb))) ?post2)
  case fin2=>
   intro c st' hR6;refine qB hR6 λe5_0 a b e5_3 h1 h2 h3 h4=>?_;subst e5_0;subst e5_3;exact jj rfl a b rfl h1 h3 h4 (.inl (zBr hh h2))
  case step2=>
   intro x c st' _ hx hR7;refine qB hR7 λe6_0 a b e6_3 h1 h2 h3 h4=>?_;subst e6_0;subst e6_3;dsimp only
   by_cases hge:b>=hint+1
   .rw[if_pos hge];exact Ho (jj rfl a b rfl h1 h3 h4 (.inl hge))
   .rw[if_neg hge];refine Hn (zcJ H hB hk ha (zDe hn hh) ?_);dsimp only;cases hb':byd left V key arr base (hint-b) with
    | true=>exact Ho (jj rfl a b rfl h1 h3 h4 (.inr hb'))
    | false=>exact Ho (jj rfl b _ rfl zv4 (zwd h2) (zAs hge) hb')
  case post2=>
   intro c st' hR8;refine qB hR8 λe7_0 a b e7_3 h1 h3 h4 h5=>?_;subst e7_0;subst e7_3;dsimp only;refine Hn (bin _ _ (zBG h1) (zBf hh) (λi hi=>?_) (λi h6 h7=>mono' (hint-a) i h6 h7 h4) λp q hp hq1 hq2=>Ho (h p hp hq1 hq2))
   rcases h5 with h5|h5
   .exact absurd hi (zxC h5)
   .rcases Nat.lt_or_ge b (hint+1) with h8|h8
    .exact mono i (hint-b) (zA9 hi) (zBe hh) h5
    .exact absurd hi (zxC h8)
end
noncomputable def zf3:Nat->StateT SortSt Sem Unit:=sortPriv% PySem.Builtin.setMinGallop
noncomputable abbrev zky(st:SortSt)(g:Nat):SortSt:=SortSt.mk' (kindOf st) (Hu st) (Hq st) g (failedOf st)
theorem zpK(g:Nat):zf3 g=modify λs=>zky s g:=rfl
noncomputable def zeC:Array Hv->Array Hv->StateT SortSt Sem (Array Hv):=sortPriv% PySem.Builtin.mergeLo
noncomputable def zeB:Array Hv->Array Hv->StateT SortSt Sem (Array Hv):=sortPriv% PySem.Builtin.mergeHi
structure MI(V:Hv->Nat)(a b out:Array Hv)(ia ib:Nat):Prop where
 la:ia<=a.size
 lb:ib<=b.size
 perm:(out.toList++a.toList.drop ia++b.toList.drop ib).Perm (a.toList++b.toList)
 srt:out.toList.Pairwise λx y=>V x<=V y
 oa:∀x∈out.toList,∀y∈a.toList.drop ia,V x<=V y
 ob:∀x∈out.toList,∀y∈b.toList.drop ib,V x<=V y
structure MR(V:Hv->Nat)(a b r:Array Hv):Prop where
 perm:r.toList.Perm (a.toList++b.toList)
 srt:r.toList.Pairwise λx y=>V x<=V y
theorem qh{V:Hv->Nat}{a:Array Hv}{i:Nat}{y:Hv}(h:y∈a.toList.drop i):∃j,i<=j/\j<a.size/\a[j]? = some y/\Rk V a j=V y:=by
 obtain⟨k,hk⟩:=fAL.mp h;rw[fCP] at hk;have hk':a[i+k]? = some y:=by rw[<-pD];exact hk
 have hlt:i+k<a.size:=by
  have:=(fW.mp hk).1
  simpa using this
 exact qm (i+k) zk1 hlt hk' (by unfold Rk;rw[hk'])
theorem kh{V:Hv->Nat}{a:Array Hv}{i:Nat}{y:Hv}(h:y∈a.toList.take i):∃j,j<i/\j<a.size/\a[j]? = some y/\Rk V a j=V y:=by
 obtain⟨k,hk⟩:=fAL.mp h;rw[List.getElem?_take] at hk;split at hk
 .have hk':a[k]? = some y:=by rw[<-pD];exact hk
  have hlt:k<a.size:=by
   have:=(fW.mp hk).1
   simpa using this
  exact qm k (ztO (by assumption)) hlt hk' (by unfold Rk;rw[hk'])
 .cases hk
theorem zgw{a:Array Hv}{i:Nat}{x:Hv}(h:a[i]? = some x):a.toList.drop i=x::a.toList.drop (i+1):=by
 have h':a.toList[i]? = some x:=by rw[pD];exact h
 obtain⟨hi,e⟩:=fW.mp h';rw[fAI hi,e]
theorem zlS{a:Array Hv}{i:Nat}{x:Hv}(h:a[i]? = some x):a.toList.take (i+1)=a.toList.take i++[x]:=by
 have h':a.toList[i]? = some x:=by rw[pD];exact h
 rw[fB2,h'];rfl
section
variable{V:Hv->Nat}{a b out:Array Hv}{ia ib:Nat}
theorem MI.pushB(M:MI V a b out ia ib)(SA:Srt V a 0 a.size)(SBb:Srt V b 0 b.size){x:Hv}(hx:b[ib]? = some x)(hib:ib<b.size)(hle:ia<a.size->V x<=Rk V a ia):MI V a b (out.push x) ia (ib+1):=by
 have ex:Rk V b ib=V x:=by unfold Rk;rw[hx]
 have hd:=zgw hx;refine⟨M.la,zqe hib,?_,?_,?_,?_⟩
 .refine List.Perm.trans ?_ M.perm;rw[hd,gI];simp only[gF,List.singleton_append];refine List.Perm.append_left _ ?_;exact(List.perm_middle (l₁:=List.drop ia a.toList)).symm
 .rw[gI,gG];exact zo M.srt (pO _ _) (λy hy z hz=>by rw[fG.mp hz];exact M.ob y hy x (by rw[hd];exact fA))
 .intro y hy z hz;rw[gI,fT,fG] at hy
  rcases hy with hy|rfl
  .exact M.oa y hy z hz
  .refine zE (qh (V:=V) hz) λj h1 h2 _ h3=>?_;have:=SA ia j (fX _) h1 h2;have:=hle (zrV h1 h2);exact zw9 h3 (by assumption) this
 .intro y hy z hz;rw[gI,fT,fG] at hy
  rcases hy with hy|rfl
  .exact M.ob y hy z (by rw[hd];exact fB _ hz)
  .refine zE (qh (V:=V) hz) λj h1 h2 _ h3=>?_;have:=SBb ib j (fX _) (zrN h1) h2;exact zrX ex h3 this
theorem MI.pushA(M:MI V a b out ia ib)(SA:Srt V a 0 a.size)(SBb:Srt V b 0 b.size){x:Hv}(hx:a[ia]? = some x)(hia:ia<a.size)(hle:ib<b.size->V x<=Rk V b ib):MI V a b (out.push x) (ia+1) ib:=by
 have ex:Rk V a ia=V x:=by unfold Rk;rw[hx]
 have hd:=zgw hx;refine⟨zqe hia,M.lb,?_,?_,?_,?_⟩
 .refine List.Perm.trans ?_ M.perm;rw[hd,gI];simp only[gF,List.cons_append];exact List.Perm.refl _
 .rw[gI,gG];exact zo M.srt (pO _ _) (λy hy z hz=>by rw[fG.mp hz];exact M.oa y hy x (by rw[hd];exact fA))
 .intro y hy z hz;rw[gI,fT,fG] at hy
  rcases hy with hy|rfl
  .exact M.oa y hy z (by rw[hd];exact fB _ hz)
  .refine zE (qh (V:=V) hz) λj h1 h2 _ h3=>?_;have:=SA ia j (fX _) (zrN h1) h2;exact zrX ex h3 this
 .intro y hy z hz;rw[gI,fT,fG] at hy
  rcases hy with hy|rfl
  .exact M.ob y hy z hz
  .refine zE (qh (V:=V) hz) λj h1 h2 _ h3=>?_;have:=SBb ib j (fX _) h1 h2;have:=hle (zrV h1 h2);exact zw9 h3 (by assumption) this
theorem zci{a:Array Hv}{i k:Nat}(h:i+k<a.size):a.extract i (i+(k+1))=(a.extract i (i+k)).push a[i+k]:=by
 apply Array.ext';have e:a[i+k]? = some a[i+k]:=getElem?_pos a (i+k) h;have e':a.toList[i+k]? = some a[i+k]:=by rw[pD];exact e
 rw[gI,pW,pW];simp only[pY,fBX];rw[fB2,fCP,e'];rfl
theorem zch(a:Array Hv)(i:Nat):a.extract i i = #[]:=by
 apply Array.ext';rw[pW];simp
theorem append_push(u v:Array Hv)(x:Hv):u++v.push x=(u++v).push x:=by rw[Array.append_push]
theorem MI.w7(SA:Srt V a 0 a.size)(SBb:Srt V b 0 b.size)(M:MI V a b out ia ib)(k:Nat):ia+k<=a.size->(∀i,i<k->ib<b.size->Rk V a (ia+i)<=Rk V b ib)->MI V a b (out++a.extract ia (ia+k)) (ia+k) ib:=by
 induction k with
 | zero=>intro _ _;rw[fA3,zch];simpa using M
 | succ k ih=>
  intro hk hle;have ih:=ih (zwE hk) λi hi=>hle i (zwo hi);have e:a[ia+k]? = some a[ia+k]:=getElem?_pos a (ia+k) (znK hk);rw[zci (znK hk),append_push];exact ih.pushA SA SBb e (znK hk) λh=>fE (pC (by unfold Rk;rw[e])) (hle k zqc h)
theorem MI.w8(SA:Srt V a 0 a.size)(SBb:Srt V b 0 b.size)(M:MI V a b out ia ib)(k:Nat):ib+k<=b.size->(∀i,i<k->ia<a.size->Rk V b (ib+i)<=Rk V a ia)->MI V a b (out++b.extract ib (ib+k)) ia (ib+k):=by
 induction k with
 | zero=>intro _ _;rw[fA3,zch];simpa using M
 | succ k ih=>
  intro hk hle;have ih:=ih (zwE hk) λi hi=>hle i (zwo hi);have e:b[ib+k]? = some b[ib+k]:=getElem?_pos b (ib+k) (znK hk);rw[zci (znK hk),append_push];exact ih.pushB SA SBb e (znK hk) λh=>by have:=hle k zqc h;unfold Rk at this;rw[e] at this;exact this
theorem kr(a:Array Hv)(i:Nat):(a.extract i a.size).toList=a.toList.drop i:=by
 rw[pW,pY];exact fBC (by simp)
theorem MI.done(M:MI V a b out ia ib)(SA:Srt V a 0 a.size)(SBb:Srt V b 0 b.size)(h:ia=a.size\/ib=b.size):MR V a b (out++a.extract ia a.size++b.extract ib b.size):=by
 refine⟨by rw[gO,gO,kr,kr];exact M.perm,?_⟩;rw[gO,gO,kr,kr,gG,gG];refine zo (zo M.srt ((j7 SA).drop) (λx hx y hy=>M.oa x hx y hy)) ((j7 SBb).drop) (λx hx y hy=>?_)
 rcases fT.mp hx with hx|hx
 .exact M.ob x hx y hy
 .rcases h with h|h
  .rw[List.drop_eq_nil_of_le (by simp[h])] at hx;cases hx
  .rw[List.drop_eq_nil_of_le (by simp[h])] at hy;cases hy
theorem MI.lastA(M:MI V a b out ia ib)(SA:Srt V a 0 a.size)(SBb:Srt V b 0 b.size)(h:ia+1=a.size)(hl:∀i,i<b.size->Rk V b i<=Rk V a (a.size-1)):MR V a b (out++b.extract ib b.size++a.extract ia a.size):=by
 refine⟨?_,?_⟩
 .refine List.Perm.trans ?_ M.perm;simp only[gO,kr,gF];exact List.Perm.append_left _ List.perm_append_comm
 .rw[gO,gO,kr,kr,gG,gG];refine zo (zo M.srt ((j7 SBb).drop) (λx hx y hy=>M.ob x hx y hy)) ((j7 SA).drop) (λx hx y hy=>?_)
  rcases fT.mp hx with hx|hx
  .exact M.oa x hx y hy
  .refine zE (qh (V:=V) hx) λj h1 h2 _ h3=>?_;refine zE (qh (V:=V) hy) λj' h1' h2' _ h3'=>?_;have:=hl j h2;rw[show j'=a.size-1 by exact zA5 h h1' h2'] at h3';exact zrX h3 h3' this
end
structure Gl(st st':SortSt):Prop where
 arr:Hu st'=Hu st
 kind:kindOf st'=kindOf st
 pend:Hq st'=Hq st
 failed:failedOf st'=failedOf st
theorem Gl.refl(st:SortSt):Gl st st:=⟨rfl,rfl,rfl,rfl⟩
theorem Gl.trans{x y z:SortSt}(h:Gl x y)(h':Gl y z):Gl x z:=⟨h'.arr.trans h.arr,h'.kind.trans h.kind,h'.pend.trans h.pend,h'.failed.trans h.failed⟩
theorem Gl.gal(st:SortSt)(g:Nat):Gl st (zky st g):=⟨rfl,rfl,rfl,rfl⟩
theorem SB.gl{κ:SortKind}{a₀:Array Hv}{st st':SortSt}(h:SB κ a₀ st)(g:Gl st st'):SB κ a₀ st':=⟨by rw[g.arr];exact h.perm,by rw[g.kind];exact h.kind,by rw[g.failed];exact h.failed⟩
noncomputable abbrev St1:=Option (Array Hv)×Array Hv×Nat×Nat×Nat×Nat
noncomputable abbrev St2:=Option (Array Hv)×Array Hv×Nat×Nat×Nat×Nat×Nat
noncomputable abbrev St0:=Option (Array Hv)×Array Hv×Nat×Nat×Nat
noncomputable def t2(a b out:Array Hv)(ia ib mg ac bc:Nat):StateT SortSt Sem (ForInStep St2):=do
 let x <-elem' a ia
 if (ia+1+1==a.size)=true then pure (.done (some (out.push x++b.extract ib b.size++a.extract (ia+1) a.size),out.push x,ia+1,ib,mg,ac,bc))
 else if (decide (ac<7)&&decide (bc<7))=true then pure (.done (none,out.push x,ia+1,ib,mg,ac,bc)) else pure (.yield (none,out.push x,ia+1,ib,mg,ac,bc))
noncomputable def t1(a b out:Array Hv)(ia ib mg ac bc:Nat):StateT SortSt Sem (ForInStep St2):=do
 let x <-elem' b ib
 if (ib+1==b.size)=true then pure (.done (some (out.push x++a.extract ia a.size++b.extract (ib+1) b.size),out.push x,ia,ib+1,mg,ac,bc))
 else do
  let y <-elem' a ia
  let r <-zaw true y b (ib+1) (b.size-(ib+1)) 0
  match r with
  | some k=>
   if k>0 then
    if (ib+1+k==b.size)=true then pure (.done (some (out.push x++b.extract (ib+1) (ib+1+k)++a.extract ia a.size++b.extract (ib+1+k) b.size),out.push x++b.extract (ib+1) (ib+1+k),ia,ib+1+k,mg,ac,k))
    else t2 a b (out.push x++b.extract (ib+1) (ib+1+k)) ia (ib+1+k) mg ac k
   else t2 a b (out.push x) ia (ib+1) mg ac k
  | _=>pure (.done (some (out.push x++a.extract ia a.size++b.extract (ib+1) b.size),out.push x,ia,ib+1,mg,ac,bc))
noncomputable def g2(a b out:Array Hv)(ia ib mg ac bc:Nat):StateT SortSt Sem (ForInStep St2):=do
 zf3 mg
 let x <-elem' b ib
 let r <-zaw false x a ia (a.size-ia) 0
 match r with
 | some k=>
  if k>0 then
   if (ia+k+1==a.size)=true then pure (.done (some (out++a.extract ia (ia+k)++b.extract ib b.size++a.extract (ia+k) a.size),out++a.extract ia (ia+k),ia+k,ib,mg,k,bc))
   else if (ia+k==a.size)=true then pure (.done (some (out++a.extract ia (ia+k)++a.extract (ia+k) a.size++b.extract ib b.size),out++a.extract ia (ia+k),ia+k,ib,mg,k,bc))
   else t1 a b (out++a.extract ia (ia+k)) (ia+k) ib mg k bc
  else t1 a b out ia ib mg k bc
 | _=>pure (.done (some (out++a.extract ia a.size++b.extract ib b.size),out,ia,ib,mg,ac,bc))
noncomputable def b2(a b:Array Hv)(c:St2):StateT SortSt Sem (ForInStep St2):=
 if c.2.2.2.2.1>1 then g2 a b c.2.1 c.2.2.1 c.2.2.2.1 (c.2.2.2.2.1-1) c.2.2.2.2.2.1 c.2.2.2.2.2.2 else g2 a b c.2.1 c.2.2.1 c.2.2.2.1 c.2.2.2.2.1 c.2.2.2.2.2.1 c.2.2.2.2.2.2
noncomputable def b1(a b:Array Hv)(mg:Nat)(c:St1):StateT SortSt Sem (ForInStep St1):=do
 let x <-elem' b c.2.2.2.1
 let y <-elem' a c.2.2.1
 let r <-lt' x y
 match r with
 | some w=>
  if w=true then do
   let x <-elem' b c.2.2.2.1
   if (c.2.2.2.1+1==b.size)=true then pure (.done (some (c.2.1.push x++a.extract c.2.2.1 a.size++b.extract (c.2.2.2.1+1) b.size),c.2.1.push x,c.2.2.1,c.2.2.2.1+1,0,c.2.2.2.2.2+1))
   else if c.2.2.2.2.2+1>=mg then pure (.done (none,c.2.1.push x,c.2.2.1,c.2.2.2.1+1,0,c.2.2.2.2.2+1)) else pure (.yield (none,c.2.1.push x,c.2.2.1,c.2.2.2.1+1,0,c.2.2.2.2.2+1))
  else do
   let x <-elem' a c.2.2.1
   if (c.2.2.1+1+1==a.size)=true then pure (.done (some (c.2.1.push x++b.extract c.2.2.2.1 b.size++a.extract (c.2.2.1+1) a.size),c.2.1.push x,c.2.2.1+1,c.2.2.2.1,c.2.2.2.2.1+1,0))
   else if c.2.2.2.2.1+1>=mg then pure (.done (none,c.2.1.push x,c.2.2.1+1,c.2.2.2.1,c.2.2.2.2.1+1,0)) else pure (.yield (none,c.2.1.push x,c.2.2.1+1,c.2.2.2.1,c.2.2.2.2.1+1,0))
 | _=>pure (.done (some (c.2.1++a.extract c.2.2.1 a.size++b.extract c.2.2.2.1 b.size),c.2.1,c.2.2.1,c.2.2.2.1,c.2.2.2.2.1,c.2.2.2.2.2))
noncomputable def b0(a b:Array Hv)(c:St0):StateT SortSt Sem (ForInStep St0):=do
 let r <-forIn [0:a.size+b.size] ((none,c.2.1,c.2.2.1,c.2.2.2.1,0,0):St1) λ_ r=>b1 a b c.2.2.2.2 r
 match r.1 with
 | some v=>pure (.done (some v,r.2.1,r.2.2.1,r.2.2.2.1,c.2.2.2.2))
 | none=>do
  liftM (rule "list.sort.gallop")
  let q <-forIn [0:a.size+b.size] ((none,r.2.1,r.2.2.1,r.2.2.2.1,c.2.2.2.2+1,r.2.2.2.2.1,r.2.2.2.2.2):St2) λ_ q=>b2 a b q
  match q.1 with
  | some v=>pure (.done (some v,q.2.1,q.2.2.1,q.2.2.2.1,q.2.2.2.2.1))
  | none=>do
   zf3 (q.2.2.2.2.1+1)
   pure (.yield (none,q.2.1,q.2.2.1,q.2.2.2.1,q.2.2.2.2.1+1))
noncomputable def mLo(a b:Array Hv):StateT SortSt Sem (Array Hv):=do
 liftM (rule "list.sort.merge-lo")
 let x <-elem' b 0
 if (1==b.size)=true then pure (#[x]++a.extract 0 a.size++b.extract 1 b.size)
 else if (0+1==a.size)=true then pure (#[x]++b.extract 1 b.size++a.extract 0 a.size)
 else do
  let g <-get
  let q <-forIn [0:a.size+b.size] ((none,#[x],0,1,gallopOf g):St0) λ_ q=>b0 a b q
  match q.1 with
  | some v=>pure v
  | none=>liftM (unsupported "internal:list.sort.merge-bound" : Sem (Array Hv))
theorem zs8(a b:Array Hv):zeC a b=mLo a b:=by kernel_rfl
section
variable{prog:Hj}{w:World}{A:Around}{E:Value->Shared->Prop}{s:Shared}{a₀:Array Hv}{κ:SortKind}{V:Hv->Nat}{a b:Array Hv}
theorem zhe{st:SortSt}{g:Nat}{Q:Unit->SortSt->Prop}(h:Q () (zky st g)):wpS (model prog w) A E s (zf3 g) Q st:=by
 rw[zpK];exact wpS_modify h
structure MG(prog:Hj)(w:World)(A:Around)(s:Shared)(κ:SortKind)(V:Hv->Nat)(a₀ a b:Array Hv):Prop where
 H:qK prog w A s κ V a₀
 ha:∀p∈a.toList,p∈a₀.toList
 hb:∀p∈b.toList,p∈a₀.toList
 SA:Srt V a 0 a.size
 SBb:Srt V b 0 b.size
 first:∀i,i<a.size->Rk V b 0<=Rk V a i
 last:∀i,i<b.size->Rk V b i<=Rk V a (a.size-1)
theorem zi1{x:Array Hv}(h:Srt V x 0 x.size)(i:Nat)(hi:i<=x.size):Srt V x i (i+(x.size-i)):=λu v h1 h2 h3=>h u v (fX _) h2 (zBO hi h3)
theorem at_some{x:Array Hv}{i:Nat}(h:i<x.size):∃p,x[i]? = some p/\p∈x.toList/\Rk V x i=V p:=by
 have e:x[i]? = some x[i]:=getElem?_pos x i h;exact zr (x[i]) e (by simp) (by unfold Rk;rw[e])
def InP(V:Hv->Nat)(a b:Array Hv)(r0:Nat)(out:Array Hv)(ia ib:Nat):Prop:=MI V a b out ia ib/\ia+1<a.size/\ib<b.size/\(a.size-ia)+(b.size-ib)<=r0
def zt8(V:Hv->Nat)(a b:Array Hv)(r0:Nat)(c:St2):Prop:=(∃r,c.1=some r/\MR V a b r)\/(c.1=none/\InP V a b r0 c.2.1 c.2.2.1 c.2.2.2.1)
def zk4(V:Hv->Nat)(a b:Array Hv)(r0:Nat)(st:SortSt)(r:ForInStep St2)(st':SortSt):Prop:=Gl st st'/\match r with
 | .done c=>zt8 V a b r0 c
 | .yield c=>c.1=none/\InP V a b r0 c.2.1 c.2.2.1 c.2.2.2.1
theorem zuU(M:MG prog w A s κ V a₀ a b){st st0:SortSt}(g:Gl st0 st){out:Array Hv}{ia ib mg ac bc r0:Nat}(I:InP V a b r0 out ia ib)(hle:Rk V a ia<=Rk V b ib):wpS (model prog w) A E s (t2 a b out ia ib mg ac bc) (zk4 V a b r0 st0) st:=by
 refine zh (at_some (V:=V) (x:=a) (i:=ia) (by have:=I.2.1;exact zhu this)) λx hx hm hr=>?_;have I1:=I.1.pushA M.SA M.SBb hx (by have:=I.2.1;exact zhu this) λ_=>zwX hle hr;refine zB I λ_ h1 h2 h3=>?_;refine Hn (je hx ?_)
 by_cases he:ia+1+1=a.size
 .rw[if_pos (by simpa using he)];exact Ho ⟨g,.inl (zc _ rfl (I1.lastA M.SA M.SBb he M.last))⟩
 .rw[if_neg (by simpa using he)];have I2:InP V a b r0 (out.push x) (ia+1) ib:=(zp I1 (zwc h1 he) h2 (zC9 h3))
  split
  .exact Ho ⟨g,.inr ⟨rfl,I2⟩⟩
  .exact Ho (zo g rfl I2)
theorem zuT(M:MG prog w A s κ V a₀ a b){st st0:SortSt}(hB:SB κ a₀ st)(g:Gl st0 st){out:Array Hv}{ia ib mg ac bc r0:Nat}(I:InP V a b r0 out ia ib)(hle:Rk V b ib<=Rk V a ia):wpS (model prog w) A E s (t1 a b out ia ib mg ac bc) (zk4 V a b r0 st0) st:=by
 refine zB I λI0 h1 h2 h3=>?_;refine zh (at_some (V:=V) (x:=b) (i:=ib) h2) λx hx hm hr=>?_;refine zh (at_some (V:=V) (x:=a) (i:=ia) (zhu h1)) λy hy hmy hry=>?_;have I1:=I0.pushB M.SA M.SBb hx h2 λ_=>zwX hle hr;refine Hn (je hx ?_)
 by_cases he:ib+1=b.size
 .rw[if_pos (by simpa using he)];exact Ho ⟨g,.inl (zc _ rfl (I1.done M.SA M.SBb (.inr he)))⟩
 .rw[if_neg (by simpa using he)];refine Hn (je hy ?_);refine Hn (zal M.H hB (M.ha y hmy) M.hb (zzR h2) (zwu h2 he) (zi1 M.SBb _ (zqe h2)) λk hk hlt hge=>?_);have hlt':∀i,i<k->Rk V b (ib+1+i)<V y:=λi hi=>by have:=hlt i hi;unfold byd at this;simpa using this
  have hge':∀i,k<=i->i<b.size-(ib+1)->V y<=Rk V b (ib+1+i):=λi h4 h5=>by have:=hge i h4 h5;unfold byd at this;simpa using this
  dsimp only
  by_cases hk0:k>0
  .rw[if_pos hk0];have I2:=MI.w8 M.SA M.SBb I1 k (zBy hk hk0) λi hi _=>by have:=hlt' i hi;exact zrW hry this
   by_cases he2:ib+1+k=b.size
   .rw[if_pos (by simpa using he2)];exact Ho ⟨g,.inl (zc _ rfl (I2.done M.SA M.SBb (.inr he2)))⟩
   .rw[if_neg (by simpa using he2)];refine zuU M g (zp I2 h1 (zBx hk hk0 he2) (zDB h3)) ?_;have:=hge' k (fN _) (zBl hk hk0 he2);exact zrU hry this
  .rw[if_neg hk0];have hk1:k=0:=zv1 hk0;subst hk1;refine zuU M g (zp I1 h1 (zwl h2 he) (zDa h3)) ?_;have:=hge' 0 (fN _) (zwu h2 he);simp only[fA3] at this;exact zrU hry this
theorem zuS(M:MG prog w A s κ V a₀ a b){st st0:SortSt}(hB:SB κ a₀ st)(g:Gl st0 st){out:Array Hv}{ia ib mg ac bc r0:Nat}(I:InP V a b r0 out ia ib):wpS (model prog w) A E s (g2 a b out ia ib mg ac bc) (zk4 V a b r0 st0) st:=by
 refine zB I λI0 h1 h2 h3=>?_;refine zh (at_some (V:=V) (x:=b) (i:=ib) h2) λx hx hm hr=>?_;refine Hn (zhe ?_);have g':=g.trans (Gl.gal st mg);have hB':=hB.gl (Gl.gal st mg);refine Hn (je hx ?_);refine Hn (zal M.H hB' (M.hb x hm) M.ha (zzD h1) (zwf h1) (zi1 M.SA _ (zzF h1)) λk hk hlt hge=>?_);have hlt':∀i,i<k->Rk V a (ia+i)<=V x:=λi hi=>by have:=hlt i hi;unfold byd at this;simpa using this
 have hge':∀i,k<=i->i<a.size-ia->V x<Rk V a (ia+i):=λi h4 h5=>by have:=hge i h4 h5;unfold byd at this;simpa using this
 dsimp only
 by_cases hk0:k>0
 .rw[if_pos hk0];have I2:=MI.w7 M.SA M.SBb I0 k (zBA hk hk0) λi hi _=>by have:=hlt' i hi;exact ztZ hr this
  by_cases he2:ia+k+1=a.size
  .rw[if_pos (by simpa using he2)];exact Ho ⟨g',.inl (zc _ rfl (I2.lastA M.SA M.SBb he2 M.last))⟩
  .rw[if_neg (by simpa using he2)]
   by_cases he3:ia+k=a.size
   .rw[if_pos (by simpa using he3)];exact Ho ⟨g',.inl (zc _ rfl (I2.done M.SA M.SBb (.inl he3)))⟩
   .rw[if_neg (by simpa using he3)];refine zuT M hB' g' (zp I2 (zBz hk hk0 he2 he3) h2 (zDC h3)) ?_;have:=hge' k (fN _) (zBm hk hk0 he3);exact zqg hr this
 .rw[if_neg hk0];have hk1:k=0:=zv1 hk0;subst hk1;refine zuT M hB' g' (zp I0 (zzE h1) h2 (zDb h3)) ?_;have:=hge' 0 (fN _) (zwf h1);simp only[fA3] at this;exact zqg hr this
theorem zyn(M:MG prog w A s κ V a₀ a b){st st0:SortSt}(hB:SB κ a₀ st)(g:Gl st0 st){c:St2}{r0:Nat}(I:InP V a b r0 c.2.1 c.2.2.1 c.2.2.2.1):wpS (model prog w) A E s (b2 a b c) (zk4 V a b r0 st0) st:=by
 unfold b2;split
 .exact zuS M hB g I
 .exact zuS M hB g I
theorem zym(M:MG prog w A s κ V a₀ a b){st:SortSt}(hB:SB κ a₀ st){c:St1}{mg r0 x:Nat}(I:InP V a b (r0-x) c.2.1 c.2.2.1 c.2.2.2.1)(hx0:x<=r0){Q:ForInStep St1->SortSt->Prop}
  (hd:∀r,MR V a b r->∀rest,Q (.done (some r,rest)) st)(hn:∀c':St1,c'.1=none->InP V a b (r0-(x+1)) c'.2.1 c'.2.2.1 c'.2.2.2.1->Q (.done c') st/\Q (.yield c') st):wpS (model prog w) A E s (b1 a b mg c) Q st:=by
 refine zB I λI0 h1 h2 h3=>?_;refine zh (at_some (V:=V) (x:=b) (i:=c.2.2.2.1) h2) λx' hx hm hr=>?_;refine zh (at_some (V:=V) (x:=a) (i:=c.2.2.1) (zhu h1)) λy hy hmy hry=>?_;refine Hn (je hx (Hn (je hy (Hn (zpG M.H hB (M.hb _ hm) (M.ha _ hmy) ?_)))));dsimp only
 by_cases hw:V x'<V y
 .rw[H0 hw,if_pos rfl];have I1:=I0.pushB M.SA M.SBb hx h2 λ_=>zrW hry hw;refine Hn (je hx ?_)
  by_cases he:c.2.2.2.1+1=b.size
  .rw[if_pos (by simpa using he)];exact Ho (hd _ (I1.done M.SA M.SBb (.inr he)) _)
  .rw[if_neg (by simpa using he)];have:=hn (none,c.2.1.push x',c.2.2.1,c.2.2.2.1+1,0,c.2.2.2.2.2+1) rfl (zp I1 h1 (by dsimp only;exact zwl h2 he) (by dsimp only;exact zDK h2 h3));split
   .exact Ho this.1
   .exact Ho this.2
 .rw[Hz hw,if_neg (by simp)];have I1:=I0.pushA M.SA M.SBb hy (zhu h1) λ_=>zBw hr hw;refine Hn (je hy ?_)
  by_cases he:c.2.2.1+1+1=a.size
  .rw[if_pos (by simpa using he)];exact Ho (hd _ (I1.lastA M.SA M.SBb he M.last) _)
  .rw[if_neg (by simpa using he)];have:=hn (none,c.2.1.push y,c.2.2.1+1,c.2.2.2.1,c.2.2.2.2.1+1,0) rfl (zp I1 (by dsimp only;exact zwc h1 he) h2 (by dsimp only;exact zDH h1 h3));split
   .exact Ho this.1
   .exact Ho this.2
theorem zyl(M:MG prog w A s κ V a₀ a b){st st0:SortSt}(hB:SB κ a₀ st)(g:Gl st0 st){c:St0}{r0:Nat}(I:InP V a b r0 c.2.1 c.2.2.1 c.2.2.2.1){Q:ForInStep St0->SortSt->Prop}
  (hd:∀r st',Gl st0 st'->MR V a b r->∀rest,Q (.done (some r,rest)) st')(hn:∀(c':St0) st',Gl st0 st'->c'.1=none->InP V a b (r0-1) c'.2.1 c'.2.2.1 c'.2.2.2.1->Q (.yield c') st'):wpS (model prog w) A E s (b0 a b c) Q st:=by
 have hbig:1<=a.size+b.size:=by have:=I.2.1;exact zA4 this
 refine Hn (Hp (Hr (I:=λx c' st'=>st'=st/\c'.1=none/\InP V a b (r0-x) c'.2.1 c'.2.2.1 c'.2.2.2.1/\x<=r0)
  (Q:=λc' st'=>st'=st/\((∃r,c'.1=some r/\MR V a b r)\/(c'.1=none/\InP V a b (r0-1) c'.2.1 c'.2.2.1 c'.2.2.2.1))) ?step ?fin (zp rfl rfl (by simpa using I) (fX _))) ?post)
 case fin=>
  intro c' st' hR1;refine zB hR1 λe0_0 h1 h2 h3=>?_;subst e0_0;exact⟨rfl,.inr (jo h1 h2.1 h2.2.1 h2.2.2.1 (by have:=h2.2.2.2;exact zC8 this))⟩
 case step=>
  intro x c' st' _ hx hR2;refine zB hR2 λe1_0 h1 h2 h3=>?_;subst e1_0;refine zym M hB h2 h3 (λr hr rest=>⟨rfl,.inl (zc r rfl hr)⟩) λc'' hc I''=>(jo ⟨rfl,.inr (jo hc I''.1 I''.2.1 I''.2.2.1 (by have:=I''.2.2.2;exact zDA this))⟩ rfl hc I'' ?_)
  have:=I''.2.2.2;have:=I''.2.1;have:=I''.2.2.1;exact zDD (by assumption) (by assumption)
 case post=>
  rintro c' st' ⟨rfl,h⟩
  rcases h with⟨r,h1,h2⟩|⟨h1,h2⟩
  .rw[h1];exact Ho (hd r _ g h2 _)
  .rw[h1];refine Hn (wpS_lift (Hd ⟨rfl,?_⟩));refine Hn (Hp (Hr (I:=λx q st''=>Gl st0 st''/\SB κ a₀ st''/\q.1=none/\InP V a b (r0-1) q.2.1 q.2.2.1 q.2.2.2.1) (Q:=λq st''=>Gl st0 st''/\zt8 V a b (r0-1) q) ?step2 ?fin2 (zp g hB rfl h2)) ?post2)
   case fin2=>
    intro q st'' hR3;refine zB hR3 λg' hB' h4 h5=>?_;exact⟨g',.inr ⟨h4,h5⟩⟩
   case step2=>
    intro x q st'' _ hx hR4;refine zB hR4 λg' hB' h4 h5=>?_;refine Hp (zyn M hB' g' h5) λr st3 hl=>?_;cases r with
    | done q'=>exact hl
    | yield q'=>exact zo hl.1 ⟨by rw[hl.1.arr,<-g'.arr];exact hB'.perm,by rw[hl.1.kind,<-g'.kind];exact hB'.kind,by rw[hl.1.failed,<-g'.failed];exact hB'.failed⟩ hl.2
   case post2=>
    rintro q st'' ⟨g',h⟩
    rcases h with⟨r,h4,h5⟩|⟨h4,h5⟩
    .rw[h4];exact Ho (hd r _ g' h5 _)
    .rw[h4];exact Hn (zhe (Ho (hn _ _ (g'.trans (Gl.gal _ _)) rfl h5)))
theorem znb(M:MG prog w A s κ V a₀ a b){st:SortSt}(hB:SB κ a₀ st)(h1:1<=a.size)(h2:1<=b.size){Q:Array Hv->SortSt->Prop}(h:∀r st',Gl st st'->MR V a b r->Q r st'):wpS (model prog w) A E s (zeC a b) Q st:=by
 rw[zs8];refine Hn (wpS_lift (Hd ⟨rfl,?_⟩));refine zh (at_some (V:=V) (x:=b) (i:=0) (ztz h2)) λx hx hm hr=>?_;have I0:MI V a b #[] 0 0:=⟨fX _,fX _,by simp,by simp,by simp,by simp⟩
 have I1:MI V a b #[x] 0 1:=I0.pushB M.SA M.SBb hx (ztz h2) λh=>by rw[<-hr];exact M.first 0 h
 refine Hn (je hx ?_)
 by_cases he:1=b.size
 .rw[if_pos (by simpa using he)];exact Ho (h _ _ (.refl _) (I1.done M.SA M.SBb (.inr he)))
 .rw[if_neg (by simpa using he)]
  by_cases he2:0+1=a.size
  .rw[if_pos (by simpa using he2)];exact Ho (h _ _ (.refl _) (I1.lastA M.SA M.SBb he2 M.last))
  .rw[if_neg (by simpa using he2)];refine Hn (wpS_get ?_);refine Hn (Hp (Hr (I:=λx q st'=>Gl st st'/\q.1=none/\InP V a b (a.size+b.size-x) q.2.1 q.2.2.1 q.2.2.2.1) (Q:=λq st'=>Gl st st'/\∃r,q.1=some r/\MR V a b r) ?step ?fin (j5 (.refl _) rfl I1 (by dsimp only;exact zyv h1 he2) (by dsimp only;exact zyx h2 he) (by dsimp only;exact zAz))) ?post)
   case fin=>
    intro q st' hR5;refine zZ hR5 λg h3 h4=>?_;exfalso;have:=h4.2.2.2;have:=h4.2.1;have:=h4.2.2.1;exact zB8 (by assumption) (by assumption)
   case step=>
    intro x q st' _ hx hR6;refine zZ hR6 λg h3 h4=>?_;refine zyl M (hB.gl g) g h4 (λr st'' g' hr rest=>(kP g' r rfl hr)) λc' st'' g' h5 h6=>(j5 g' h5 h6.1 h6.2.1 h6.2.2.1 (by have:=h6.2.2.2;exact zC7 this))
   case post=>
    intro q st' hR7;refine ko hR7 λg r h3 h4=>?_;rw[h3];exact Ho (h r st' g h4)
end
structure MH(V:Hv->Nat)(a b out:Array Hv)(na nb:Nat):Prop where
 la:na<=a.size
 lb:nb<=b.size
 perm:(a.toList.take na++b.toList.take nb++out.toList.reverse).Perm (a.toList++b.toList)
 srt:out.toList.reverse.Pairwise λx y=>V x<=V y
 oa:∀x∈out.toList,∀y∈a.toList.take na,V y<=V x
 ob:∀x∈out.toList,∀y∈b.toList.take nb,V y<=V x
section
variable{V:Hv->Nat}{a b out:Array Hv}{na nb:Nat}
theorem MH.pushB(M:MH V a b out na (nb+1))(SA:Srt V a 0 a.size)(SBb:Srt V b 0 b.size){x:Hv}(hx:b[nb]? = some x)(hle:0<na->Rk V a (na-1)<=V x):MH V a b (out.push x) na nb:=by
 have ex:Rk V b nb=V x:=by unfold Rk;rw[hx]
 have hd:=zlS hx;have hnb:nb<b.size:=(pV.mp hx).1;refine⟨M.la,zhv hnb,?_,?_,?_,?_⟩
 .refine List.Perm.trans ?_ M.perm;rw[hd,gI];simp
 .rw[gI,fCI];refine gE.mpr ⟨λy hy=>?_,M.srt⟩;exact M.ob y (fBO.mp hy) x (by rw[hd];simp)
 .intro y hy z hz;rw[gI,fT,fG] at hy
  rcases hy with hy|rfl
  .exact M.oa y hy z hz
  .refine zE (kh (V:=V) hz) λj h1 h2 _ h3=>?_;have:=SA j (na-1) (fX _) (zrO h1) (by have:=M.la;exact zwV h1 this);have:=hle (zwv h1);exact zw7 h3 (by assumption) this
 .intro y hy z hz;rw[gI,fT,fG] at hy
  rcases hy with hy|rfl
  .exact M.ob y hy z (by rw[hd];exact pB _ hz)
  .refine zE (kh (V:=V) hz) λj h1 h2 _ h3=>?_;have:=SBb j nb (fX _) (zhv h1) hnb;exact zw8 ex h3 this
theorem MH.pushA(M:MH V a b out (na+1) nb)(SA:Srt V a 0 a.size)(SBb:Srt V b 0 b.size){x:Hv}(hx:a[na]? = some x)(hle:0<nb->Rk V b (nb-1)<=V x):MH V a b (out.push x) na nb:=by
 have ex:Rk V a na=V x:=by unfold Rk;rw[hx]
 have hd:=zlS hx;have hna:na<a.size:=(pV.mp hx).1;refine⟨zhv hna,M.lb,?_,?_,?_,?_⟩
 .refine List.Perm.trans ?_ M.perm;rw[hd,gI];simp only[gF,fCI,fCV,List.reverse_nil,fAH,List.singleton_append];refine List.Perm.append_left _ ?_;exact List.perm_middle
 .rw[gI,fCI];refine gE.mpr ⟨λy hy=>?_,M.srt⟩;exact M.oa y (fBO.mp hy) x (by rw[hd];simp)
 .intro y hy z hz;rw[gI,fT,fG] at hy
  rcases hy with hy|rfl
  .exact M.oa y hy z (by rw[hd];exact pB _ hz)
  .refine zE (kh (V:=V) hz) λj h1 h2 _ h3=>?_;have:=SA j na (fX _) (zhv h1) hna;exact zw8 ex h3 this
 .intro y hy z hz;rw[gI,fT,fG] at hy
  rcases hy with hy|rfl
  .exact M.ob y hy z hz
  .refine zE (kh (V:=V) hz) λj h1 h2 _ h3=>?_;have:=SBb j (nb-1) (fX _) (zrO h1) (by have:=M.lb;exact zwV h1 this);have:=hle (zwv h1);exact zw7 h3 (by assumption) this
theorem zdw{a:Array Hv}{i k:Nat}(h:i+k+1<=a.size):(a.extract i (i+(k+1))).reverse=(a.extract (i+1) (i+1+k)).reverse.push a[i]:=by
 have e:a[i]? = some a[i]:=getElem?_pos a i (zAI h);apply Array.ext';rw[gI,fAQ,fAQ,pW,pW,pY,pY,zgw e];simp only[fBX];rw[List.take_succ_cons,fCV]
theorem MH.w7(SA:Srt V a 0 a.size)(SBb:Srt V b 0 b.size)(k:Nat):∀(at_:Nat) {out:Array Hv},MH V a b out (at_+k) nb->(∀i,at_<=i->i<at_+k->0<nb->Rk V b (nb-1)<=Rk V a i)->MH V a b (out++(a.extract at_ (at_+k)).reverse) at_ nb:=by
 induction k with
 | zero=>intro at_ out M _;rw[fA3,zch];simpa using M
 | succ k ih=>
  intro at_ out M hle;have hla:=M.la;have ih:=ih (at_+1) ((ztU:at_+1+k=at_+(k+1))▸M) λi h1 h2 h3=>hle i (zrN h1) (zwK h2) h3;have e:a[at_]? = some a[at_]:=getElem?_pos a at_ (zwG hla);rw[zdw (zwD hla),append_push];exact ih.pushA SA SBb e λh=>fE (hle at_ (fN _) zwB h) (pC (by unfold Rk;rw[e]))
theorem MH.w8(SA:Srt V a 0 a.size)(SBb:Srt V b 0 b.size)(k:Nat):∀(at_:Nat) {out:Array Hv},MH V a b out na (at_+k)->(∀i,at_<=i->i<at_+k->0<na->Rk V a (na-1)<=Rk V b i)->MH V a b (out++(b.extract at_ (at_+k)).reverse) na at_:=by
 induction k with
 | zero=>intro at_ out M _;rw[fA3,zch];simpa using M
 | succ k ih=>
  intro at_ out M hle;have hlb:=M.lb;have ih:=ih (at_+1) ((ztU:at_+1+k=at_+(k+1))▸M) λi h1 h2 h3=>hle i (zrN h1) (zwK h2) h3;have e:b[at_]? = some b[at_]:=getElem?_pos b at_ (zwG hlb);rw[zdw (zwD hlb),append_push];exact ih.pushB SA SBb e λh=>fE (hle at_ (fN _) zwB h) (pC (by unfold Rk;rw[e]))
theorem kt(a:Array Hv)(i:Nat):(a.extract 0 i).toList=a.toList.take i:=by
 simp
theorem MH.done(M:MH V a b out na nb)(SA:Srt V a 0 a.size)(SBb:Srt V b 0 b.size)(h:na=0\/nb=0):MR V a b (a.extract 0 na++b.extract 0 nb++out.reverse):=by
 refine⟨by rw[gO,gO,kt,kt,fAQ];exact M.perm,?_⟩;rw[gO,gO,kt,kt,fAQ,gG,gG];refine zo (zo ((j7 SA).take) ((j7 SBb).take) (λx hx y hy=>?_)) M.srt (λx hx y hy=>?_)
 .rcases h with h|h
  .subst h;simp at hx
  .subst h;simp at hy
 .have hy':=fBO.mp hy
  rcases fT.mp hx with hx|hx
  .exact M.oa y hy' x hx
  .exact M.ob y hy' x hx
theorem MH.firstB(M:MH V a b out na nb)(SA:Srt V a 0 a.size)(SBb:Srt V b 0 b.size)(h:nb=1)(hf:∀i,i<a.size->Rk V b 0<=Rk V a i):MR V a b (b.extract 0 nb++a.extract 0 na++out.reverse):=by
 refine⟨?_,?_⟩
 .refine List.Perm.trans ?_ M.perm;simp only[gO,kt,fAQ];exact List.Perm.append_right _ List.perm_append_comm
 .rw[gO,gO,kt,kt,fAQ,gG,gG];refine zo (zo ((j7 SBb).take) ((j7 SA).take) (λx hx y hy=>?_)) M.srt (λx hx y hy=>?_)
  .refine zE (kh (V:=V) hx) λj h1 h2 _ h3=>?_;refine zE (kh (V:=V) hy) λj' h1' h2' _ h3'=>?_;have:=hf j' h2';rw[show j=0 by exact zAi h h1] at h3;exact zrX h3 h3' this
  .have hy':=fBO.mp hy
   rcases fT.mp hx with hx|hx
   .exact M.ob y hy' x hx
   .exact M.oa y hy' x hx
end
noncomputable abbrev Sh1:=Option (Array Hv)×Nat×Nat×Array Hv×Nat×Nat
noncomputable abbrev Sh2:=Option (Array Hv)×Nat×Nat×Array Hv×Nat×Nat×Nat
noncomputable abbrev Sh0:=Option (Array Hv)×Nat×Nat×Array Hv×Nat
noncomputable def u2(a b out:Array Hv)(na nb mg ac bc:Nat):StateT SortSt Sem (ForInStep Sh2):=do
 let x <-elem' a (na-1)
 if (na-1==0)=true then pure (.done (some (a.extract 0 (na-1)++b.extract 0 nb++(out.push x).reverse),na-1,nb,out.push x,mg,ac,bc))
 else if (decide (ac<7)&&decide (bc<7))=true then pure (.done (none,na-1,nb,out.push x,mg,ac,bc)) else pure (.yield (none,na-1,nb,out.push x,mg,ac,bc))
noncomputable def u1(a b out:Array Hv)(na nb mg ac bc:Nat):StateT SortSt Sem (ForInStep Sh2):=do
 let x <-elem' b (nb-1)
 if (nb-1==1)=true then pure (.done (some (b.extract 0 (nb-1)++a.extract 0 na++(out.push x).reverse),na,nb-1,out.push x,mg,ac,bc))
 else do
  let y <-elem' a (na-1)
  let r <-zaw true y b 0 (nb-1) (nb-1-1)
  match r with
  | some p=>
   if nb-1-p>0 then
    if (p==1)=true then pure (.done (some (b.extract 0 p++a.extract 0 na++(out.push x++(b.extract p (nb-1)).reverse).reverse),na,p,out.push x++(b.extract p (nb-1)).reverse,mg,ac,nb-1-p))
    else if (p==0)=true then pure (.done (some (a.extract 0 na++b.extract 0 p++(out.push x++(b.extract p (nb-1)).reverse).reverse),na,p,out.push x++(b.extract p (nb-1)).reverse,mg,ac,nb-1-p))
    else u2 a b (out.push x++(b.extract p (nb-1)).reverse) na p mg ac (nb-1-p)
   else u2 a b (out.push x) na (nb-1) mg ac (nb-1-p)
  | _=>pure (.done (some (a.extract 0 na++b.extract 0 (nb-1)++(out.push x).reverse),na,nb-1,out.push x,mg,ac,bc))
noncomputable def v2(a b out:Array Hv)(na nb mg ac bc:Nat):StateT SortSt Sem (ForInStep Sh2):=do
 zf3 mg
 let x <-elem' b (nb-1)
 let r <-zaw false x a 0 na (na-1)
 match r with
 | some p=>
  if na-p>0 then
   if (p==0)=true then pure (.done (some (a.extract 0 p++b.extract 0 nb++(out++(a.extract p na).reverse).reverse),p,nb,out++(a.extract p na).reverse,mg,na-p,bc))
   else u1 a b (out++(a.extract p na).reverse) p nb mg (na-p) bc
  else u1 a b out na nb mg (na-p) bc
 | _=>pure (.done (some (a.extract 0 na++b.extract 0 nb++out.reverse),na,nb,out,mg,ac,bc))
noncomputable def h2(a b:Array Hv)(c:Sh2):StateT SortSt Sem (ForInStep Sh2):=
 if c.2.2.2.2.1>1 then v2 a b c.2.2.2.1 c.2.1 c.2.2.1 (c.2.2.2.2.1-1) c.2.2.2.2.2.1 c.2.2.2.2.2.2 else v2 a b c.2.2.2.1 c.2.1 c.2.2.1 c.2.2.2.2.1 c.2.2.2.2.2.1 c.2.2.2.2.2.2
noncomputable def h1(a b:Array Hv)(mg:Nat)(c:Sh1):StateT SortSt Sem (ForInStep Sh1):=do
 let x <-elem' b (c.2.2.1-1)
 let y <-elem' a (c.2.1-1)
 let r <-lt' x y
 match r with
 | some w=>
  if w=true then do
   let x <-elem' a (c.2.1-1)
   if (c.2.1-1==0)=true then pure (.done (some (a.extract 0 (c.2.1-1)++b.extract 0 c.2.2.1++(c.2.2.2.1.push x).reverse),c.2.1-1,c.2.2.1,c.2.2.2.1.push x,c.2.2.2.2.1+1,0))
   else if c.2.2.2.2.1+1>=mg then pure (.done (none,c.2.1-1,c.2.2.1,c.2.2.2.1.push x,c.2.2.2.2.1+1,0)) else pure (.yield (none,c.2.1-1,c.2.2.1,c.2.2.2.1.push x,c.2.2.2.2.1+1,0))
  else do
   let x <-elem' b (c.2.2.1-1)
   if (c.2.2.1-1==1)=true then pure (.done (some (b.extract 0 (c.2.2.1-1)++a.extract 0 c.2.1++(c.2.2.2.1.push x).reverse),c.2.1,c.2.2.1-1,c.2.2.2.1.push x,0,c.2.2.2.2.2+1))
   else if c.2.2.2.2.2+1>=mg then pure (.done (none,c.2.1,c.2.2.1-1,c.2.2.2.1.push x,0,c.2.2.2.2.2+1)) else pure (.yield (none,c.2.1,c.2.2.1-1,c.2.2.2.1.push x,0,c.2.2.2.2.2+1))
 | _=>pure (.done (some (a.extract 0 c.2.1++b.extract 0 c.2.2.1++c.2.2.2.1.reverse),c.2.1,c.2.2.1,c.2.2.2.1,c.2.2.2.2.1,c.2.2.2.2.2))
noncomputable def h0(a b:Array Hv)(c:Sh0):StateT SortSt Sem (ForInStep Sh0):=do
 let r <-forIn [0:a.size+b.size] ((none,c.2.1,c.2.2.1,c.2.2.2.1,0,0):Sh1) λ_ r=>h1 a b c.2.2.2.2 r
 match r.1 with
 | some v=>pure (.done (some v,r.2.1,r.2.2.1,r.2.2.2.1,c.2.2.2.2))
 | none=>do
  liftM (rule "list.sort.gallop")
  let q <-forIn [0:a.size+b.size] ((none,r.2.1,r.2.2.1,r.2.2.2.1,c.2.2.2.2+1,r.2.2.2.2.1,r.2.2.2.2.2):Sh2) λ_ q=>h2 a b q
  match q.1 with
  | some v=>pure (.done (some v,q.2.1,q.2.2.1,q.2.2.2.1,q.2.2.2.2.1))
  | none=>do
   zf3 (q.2.2.2.2.1+1)
   pure (.yield (none,q.2.1,q.2.2.1,q.2.2.2.1,q.2.2.2.2.1+1))
noncomputable def mHi(a b:Array Hv):StateT SortSt Sem (Array Hv):=do
 liftM (rule "list.sort.merge-hi")
 let x <-elem' a (a.size-1)
 if (a.size-1==0)=true then pure (a.extract 0 (a.size-1)++b.extract 0 b.size++(#[x]:Array Hv).reverse)
 else if (b.size==1)=true then pure (b.extract 0 b.size++a.extract 0 (a.size-1)++(#[x]:Array Hv).reverse)
 else do
  let g <-get
  let q <-forIn [0:a.size+b.size] ((none,a.size-1,b.size,#[x],gallopOf g):Sh0) λ_ q=>h0 a b q
  match q.1 with
  | some v=>pure v
  | none=>liftM (unsupported "internal:list.sort.merge-bound" : Sem (Array Hv))
theorem zs7(a b:Array Hv):zeB a b=mHi a b:=by kernel_rfl
section
variable{prog:Hj}{w:World}{A:Around}{E:Value->Shared->Prop}{s:Shared}{a₀:Array Hv}{κ:SortKind}{V:Hv->Nat}{a b:Array Hv}
def InH(V:Hv->Nat)(a b:Array Hv)(r0:Nat)(out:Array Hv)(na nb:Nat):Prop:=MH V a b out na nb/\1<=na/\2<=nb/\na+nb<=r0
def zt9(V:Hv->Nat)(a b:Array Hv)(r0:Nat)(c:Sh2):Prop:=(∃r,c.1=some r/\MR V a b r)\/(c.1=none/\InH V a b r0 c.2.2.2.1 c.2.1 c.2.2.1)
def zk5(V:Hv->Nat)(a b:Array Hv)(r0:Nat)(st:SortSt)(r:ForInStep Sh2)(st':SortSt):Prop:=Gl st st'/\match r with
 | .done c=>zt9 V a b r0 c
 | .yield c=>c.1=none/\InH V a b r0 c.2.2.2.1 c.2.1 c.2.2.1
theorem MH.pushA'{out:Array Hv}{na nb:Nat}(M:MH V a b out na nb)(SA:Srt V a 0 a.size)(SBb:Srt V b 0 b.size){x:Hv}(hna:1<=na)(hx:a[na-1]? = some x)(hle:0<nb->Rk V b (nb-1)<=V x):MH V a b (out.push x) (na-1) nb:=by
 obtain⟨n,rfl⟩:∃n,na=n+1:=⟨na-1,zvM hna⟩
 exact M.pushA SA SBb hx hle
theorem MH.pushB'{out:Array Hv}{na nb:Nat}(M:MH V a b out na nb)(SA:Srt V a 0 a.size)(SBb:Srt V b 0 b.size){x:Hv}(hnb:1<=nb)(hx:b[nb-1]? = some x)(hle:0<na->Rk V a (na-1)<=V x):MH V a b (out.push x) na (nb-1):=by
 obtain⟨n,rfl⟩:∃n,nb=n+1:=⟨nb-1,zvM hnb⟩
 exact M.pushB SA SBb hx hle
theorem zuX(M:MG prog w A s κ V a₀ a b){st st0:SortSt}(g:Gl st0 st){out:Array Hv}{na nb mg ac bc r0:Nat}(I:InH V a b r0 out na nb)(hle:Rk V b (nb-1)<=Rk V a (na-1)):wpS (model prog w) A E s (u2 a b out na nb mg ac bc) (zk5 V a b r0 st0) st:=by
 refine zB I λI0 h1 h2 h3=>?_;have hla:=I0.la;refine zh (at_some (V:=V) (x:=a) (i:=na-1) (ztJ h1 hla)) λx hx hm hr=>?_;have I1:=I0.pushA' M.SA M.SBb h1 hx λ_=>ztW hle hr;refine Hn (je hx ?_)
 by_cases he:na-1=0
 .rw[if_pos (by simpa using he)];exact Ho ⟨g,.inl (zc _ rfl (I1.done M.SA M.SBb (.inl he)))⟩
 .rw[if_neg (by simpa using he)];have I2:InH V a b r0 (out.push x) (na-1) nb:=(zp I1 (ztG he) h2 (zAW h3))
  split
  .exact Ho ⟨g,.inr ⟨rfl,I2⟩⟩
  .exact Ho (zo g rfl I2)
theorem zuW(M:MG prog w A s κ V a₀ a b){st st0:SortSt}(hB:SB κ a₀ st)(g:Gl st0 st){out:Array Hv}{na nb mg ac bc r0:Nat}(I:InH V a b r0 out na nb)(hle:Rk V a (na-1)<=Rk V b (nb-1)):wpS (model prog w) A E s (u1 a b out na nb mg ac bc) (zk5 V a b r0 st0) st:=by
 refine zB I λI0 h1 h2 h3=>?_;have hla:=I0.la;have hlb:=I0.lb;refine zh (at_some (V:=V) (x:=b) (i:=nb-1) (ztM h2 hlb)) λx hx hm hr=>?_;refine zh (at_some (V:=V) (x:=a) (i:=na-1) (ztJ h1 hla)) λy hy hmy hry=>?_;have I1:=I0.pushB' M.SA M.SBb (ztB h2) hx λ_=>ztW hle hr;refine Hn (je hx ?_)
 by_cases he:nb-1=1
 .rw[if_pos (by simpa using he)];exact Ho ⟨g,.inl (zc _ rfl (I1.firstB M.SA M.SBb he M.first))⟩
 .rw[if_neg (by simpa using he)];refine Hn (je hy ?_);refine Hn (zal M.H hB (M.ha y hmy) M.hb (by exact zz8 hlb) (by exact zyC h2) (λu v h4 h5 h6=>M.SBb u v (fX _) h5 (zBM hlb h6)) λp hp hlt hge=>?_);have hlt':∀i,i<p->Rk V b i<V y:=λi hi=>by have:=hlt i hi;unfold byd at this;simpa using this
  have hge':∀i,p<=i->i<nb-1->V y<=Rk V b i:=λi h4 h5=>by have:=hge i h4 h5;unfold byd at this;simpa using this
  dsimp only
  by_cases hk0:nb-1-p>0
  .rw[if_pos hk0];have I2:=MH.w8 (na:=na) M.SA M.SBb (nb-1-p) p (out:=out.push x) (by rw[show p+(nb-1-p)=nb-1 by exact zv6 hk0];exact I1) λi h4 h5 _=>by have:=hge' i h4 (by exact zAO hk0 h5);exact zrU hry this
   rw[show p+(nb-1-p)=nb-1 by exact zv6 hk0] at I2
   by_cases he2:p=1
   .rw[if_pos (by simpa using he2)];exact Ho ⟨g,.inl (zc _ rfl (I2.firstB M.SA M.SBb he2 M.first))⟩
   .rw[if_neg (by simpa using he2)]
    by_cases he3:p=0
    .rw[if_pos (by simpa using he3)];exact Ho ⟨g,.inl (zc _ rfl (I2.done M.SA M.SBb (.inr he3)))⟩
    .rw[if_neg (by simpa using he3)];refine zuX M g (zp I2 h1 (zy6 he2 he3) (zCg h3 hk0)) ?_;have:=hlt' (p-1) (zv0 he3);exact zrW hry this
  .rw[if_neg hk0];refine zuX M g (zp I1 h1 (by exact zvN h2 he) (zAX h3)) ?_;have:=hlt' (nb-1-1) (by exact zzP h2 hk0);exact zrW hry this
theorem zuY(M:MG prog w A s κ V a₀ a b){st st0:SortSt}(hB:SB κ a₀ st)(g:Gl st0 st){out:Array Hv}{na nb mg ac bc r0:Nat}(I:InH V a b r0 out na nb):wpS (model prog w) A E s (v2 a b out na nb mg ac bc) (zk5 V a b r0 st0) st:=by
 refine zB I λI0 h1 h2 h3=>?_;have hla:=I0.la;have hlb:=I0.lb;refine zh (at_some (V:=V) (x:=b) (i:=nb-1) (ztM h2 hlb)) λx hx hm hr=>?_;refine Hn (zhe ?_);have g':=g.trans (Gl.gal st mg);have hB':=hB.gl (Gl.gal st mg);refine Hn (je hx ?_);refine Hn (zal M.H hB' (M.hb x hm) M.ha (zz9 hla) (zrJ h1) (λu v h4 h5 h6=>M.SA u v (fX _) h5 (zBN hla h6)) λp hp hlt hge=>?_);have hlt':∀i,i<p->Rk V a i<=V x:=λi hi=>by have:=hlt i hi;unfold byd at this;simpa using this
 have hge':∀i,p<=i->i<na->V x<Rk V a i:=λi h4 h5=>by have:=hge i h4 h5;unfold byd at this;simpa using this
 dsimp only
 by_cases hk0:na-p>0
 .rw[if_pos hk0];have I2:=MH.w7 (nb:=nb) M.SA M.SBb (na-p) p (out:=out) (by rw[show p+(na-p)=na by exact zwh hk0];exact I0) λi h4 h5 _=>by have:=hge' i h4 (by exact zA2 hk0 h5);exact zqg hr this
  rw[show p+(na-p)=na by exact zwh hk0] at I2
  by_cases he2:p=0
  .rw[if_pos (by simpa using he2)];exact Ho ⟨g',.inl (zc _ rfl (I2.done M.SA M.SBb (.inl he2)))⟩
  .rw[if_neg (by simpa using he2)];refine zuW M hB' g' (zp I2 (zy5 he2) h2 (zCn h3 hp)) ?_;have:=hlt' (p-1) (zv0 he2);exact ztZ hr this
 .rw[if_neg hk0];refine zuW M hB' g' (zp I0 (ztA h1) h2 (zAY h3)) ?_;have:=hlt' (na-1) (zzO h1 hk0);exact ztZ hr this
theorem zyq(M:MG prog w A s κ V a₀ a b){st st0:SortSt}(hB:SB κ a₀ st)(g:Gl st0 st){c:Sh2}{r0:Nat}(I:InH V a b r0 c.2.2.2.1 c.2.1 c.2.2.1):wpS (model prog w) A E s (h2 a b c) (zk5 V a b r0 st0) st:=by
 unfold h2;split
 .exact zuY M hB g I
 .exact zuY M hB g I
theorem zyp(M:MG prog w A s κ V a₀ a b){st:SortSt}(hB:SB κ a₀ st){c:Sh1}{mg r0 x:Nat}(I:InH V a b (r0-x) c.2.2.2.1 c.2.1 c.2.2.1)(hx0:x<=r0){Q:ForInStep Sh1->SortSt->Prop}
  (hd:∀r,MR V a b r->∀rest,Q (.done (some r,rest)) st)(hn:∀c':Sh1,c'.1=none->InH V a b (r0-(x+1)) c'.2.2.2.1 c'.2.1 c'.2.2.1->Q (.done c') st/\Q (.yield c') st):wpS (model prog w) A E s (h1 a b mg c) Q st:=by
 refine zB I λI0 h1' h2' h3=>?_;have hla:=I0.la;have hlb:=I0.lb;refine zh (at_some (V:=V) (x:=b) (i:=c.2.2.1-1) (ztM h2' hlb)) λx' hx hm hr=>?_;refine zh (at_some (V:=V) (x:=a) (i:=c.2.1-1) (ztJ h1' hla)) λy hy hmy hry=>?_;refine Hn (je hx (Hn (je hy (Hn (zpG M.H hB (M.hb _ hm) (M.ha _ hmy) ?_)))));dsimp only
 by_cases hw:V x'<V y
 .rw[H0 hw,if_pos rfl];have I1:=I0.pushA' M.SA M.SBb h1' hy λ_=>zqg hr hw;refine Hn (je hy ?_)
  by_cases he:c.2.1-1=0
  .rw[if_pos (by simpa using he)];exact Ho (hd _ (I1.done M.SA M.SBb (.inl he)) _)
  .rw[if_neg (by simpa using he)];have:=hn (none,c.2.1-1,c.2.2.1,c.2.2.2.1.push y,c.2.2.2.2.1+1,0) rfl (zp I1 (by dsimp only;exact ztG he) (by dsimp only;exact ztC h2') (by dsimp only;exact zCp h1' h3));split
   .exact Ho this.1
   .exact Ho this.2
 .rw[Hz hw,if_neg (by simp)];have I1:=I0.pushB' M.SA M.SBb (ztB h2') hx λ_=>zwP hry hw;refine Hn (je hx ?_)
  by_cases he:c.2.2.1-1=1
  .rw[if_pos (by simpa using he)];exact Ho (hd _ (I1.firstB M.SA M.SBb he M.first) _)
  .rw[if_neg (by simpa using he)];have:=hn (none,c.2.1,c.2.2.1-1,c.2.2.2.1.push x',0,c.2.2.2.2.2+1) rfl (zp I1 (by dsimp only;exact ztA h1') (by dsimp only;exact zvN h2' he) (by dsimp only;exact zCs h2' h3));split
   .exact Ho this.1
   .exact Ho this.2
theorem zyo(M:MG prog w A s κ V a₀ a b){st st0:SortSt}(hB:SB κ a₀ st)(g:Gl st0 st){c:Sh0}{r0:Nat}(I:InH V a b r0 c.2.2.2.1 c.2.1 c.2.2.1){Q:ForInStep Sh0->SortSt->Prop}
  (hd:∀r st',Gl st0 st'->MR V a b r->∀rest,Q (.done (some r,rest)) st')(hn:∀(c':Sh0) st',Gl st0 st'->c'.1=none->InH V a b (r0-1) c'.2.2.2.1 c'.2.1 c'.2.2.1->Q (.yield c') st'):wpS (model prog w) A E s (h0 a b c) Q st:=by
 have hbig:1<=a.size+b.size:=by have:=I.2.1;have:=I.1.la;exact zA8 (by assumption) this
 refine Hn (Hp (Hr (I:=λx c' st'=>st'=st/\c'.1=none/\InH V a b (r0-x) c'.2.2.2.1 c'.2.1 c'.2.2.1/\x<=r0)
  (Q:=λc' st'=>st'=st/\((∃r,c'.1=some r/\MR V a b r)\/(c'.1=none/\InH V a b (r0-1) c'.2.2.2.1 c'.2.1 c'.2.2.1))) ?step ?fin (zp rfl rfl (by simpa using I) (fX _))) ?post)
 case fin=>
  intro c' st' hR1;refine zB hR1 λe0_0 h1 h2 h3=>?_;subst e0_0;exact⟨rfl,.inr (jo h1 h2.1 h2.2.1 h2.2.2.1 (by have:=h2.2.2.2;exact zDg hbig this))⟩
 case step=>
  intro x c' st' _ hx hR2;refine zB hR2 λe1_0 h1 h2 h3=>?_;subst e1_0;refine zyp M hB h2 h3 (λr hr rest=>⟨rfl,.inl (zc r rfl hr)⟩) λc'' hc I''=>(jo ⟨rfl,.inr (jo hc I''.1 I''.2.1 I''.2.2.1 (by have:=I''.2.2.2;exact zCf this))⟩ rfl hc I'' ?_)
  have:=I''.2.2.2;have:=I''.2.1;have:=I''.2.2.1;exact zCk (by assumption) this
 case post=>
  rintro c' st' ⟨rfl,h⟩
  rcases h with⟨r,h1,h2⟩|⟨h1,h2⟩
  .rw[h1];exact Ho (hd r _ g h2 _)
  .rw[h1];refine Hn (wpS_lift (Hd ⟨rfl,?_⟩));refine Hn (Hp (Hr (I:=λx q st''=>Gl st0 st''/\SB κ a₀ st''/\q.1=none/\InH V a b (r0-1) q.2.2.2.1 q.2.1 q.2.2.1) (Q:=λq st''=>Gl st0 st''/\zt9 V a b (r0-1) q) ?step2 ?fin2 (zp g hB rfl h2)) ?post2)
   case fin2=>
    intro q st'' hR3;refine zB hR3 λg' hB' h4 h5=>?_;exact⟨g',.inr ⟨h4,h5⟩⟩
   case step2=>
    intro x q st'' _ hx hR4;refine zB hR4 λg' hB' h4 h5=>?_;refine Hp (zyq M hB' g' h5) λr st3 hl=>?_;cases r with
    | done q'=>exact hl
    | yield q'=>exact zo hl.1 ⟨by rw[hl.1.arr,<-g'.arr];exact hB'.perm,by rw[hl.1.kind,<-g'.kind];exact hB'.kind,by rw[hl.1.failed,<-g'.failed];exact hB'.failed⟩ hl.2
   case post2=>
    rintro q st'' ⟨g',h⟩
    rcases h with⟨r,h4,h5⟩|⟨h4,h5⟩
    .rw[h4];exact Ho (hd r _ g' h5 _)
    .rw[h4];exact Hn (zhe (Ho (hn _ _ (g'.trans (Gl.gal _ _)) rfl h5)))
theorem zna(M:MG prog w A s κ V a₀ a b){st:SortSt}(hB:SB κ a₀ st)(h1:1<=a.size)(h2:1<=b.size){Q:Array Hv->SortSt->Prop}(h:∀r st',Gl st st'->MR V a b r->Q r st'):wpS (model prog w) A E s (zeB a b) Q st:=by
 rw[zs7];refine Hn (wpS_lift (Hd ⟨rfl,?_⟩));refine zh (at_some (V:=V) (x:=a) (i:=a.size-1) (zrJ h1)) λx hx hm hr=>?_;have I0:MH V a b #[] a.size b.size:=⟨fN _,fN _,by simp[fBC],by simp,by simp,by simp⟩
 have I1:MH V a b #[x] (a.size-1) b.size:=I0.pushA' M.SA M.SBb h1 hx λh=>by rw[<-hr];exact M.last _ (zrJ h2)
 refine Hn (je hx ?_)
 by_cases he:a.size-1=0
 .rw[if_pos (by simpa using he)];exact Ho (h _ _ (.refl _) (I1.done M.SA M.SBb (.inl he)))
 .rw[if_neg (by simpa using he)]
  by_cases he2:b.size=1
  .rw[if_pos (by simpa using he2)];exact Ho (h _ _ (.refl _) (I1.firstB M.SA M.SBb he2 M.first))
  .rw[if_neg (by simpa using he2)];refine Hn (wpS_get ?_);refine Hn (Hp (Hr (I:=λx q st'=>Gl st st'/\q.1=none/\InH V a b (a.size+b.size-x) q.2.2.2.1 q.2.1 q.2.2.1) (Q:=λq st'=>Gl st st'/\∃r,q.1=some r/\MR V a b r) ?step ?fin (j5 (.refl _) rfl I1 (by dsimp only;exact ztG he) (by dsimp only;exact zyy h2 he2) (by dsimp only;exact zAA))) ?post)
   case fin=>
    intro q st' hR5;refine zZ hR5 λg h3 h4=>?_;exfalso;have:=h4.2.2.2;have:=h4.2.1;have:=h4.2.2.1;exact zCe (by assumption) this
   case step=>
    intro x q st' _ hx hR6;refine zZ hR6 λg h3 h4=>?_;refine zyo M (hB.gl g) g h4 (λr st'' g' hr rest=>(kP g' r rfl hr)) λc' st'' g' h5 h6=>(j5 g' h5 h6.1 h6.2.1 h6.2.2.1 (by have:=h6.2.2.2;exact zDd this))
   case post=>
    intro q st' hR7;refine ko hR7 λg r h3 h4=>?_;rw[h3];exact Ho (h r st' g h4)
end
noncomputable def zar(sa:Nat)(l:List Hv)(j0:Nat)(arr:Array Hv):Array Hv:=(l.zipIdx j0).foldl (λa (p:Hv×Nat)=>a.setIfInBounds (sa+p.2) p.1) arr
theorem znG(sa:Nat)(l:List Hv):∀(j0:Nat) (arr:Array Hv),sa+j0+l.length<=arr.size->∀k,(zar sa l j0 arr)[k]? = if sa+j0<=k/\k<sa+j0+l.length then l[k-(sa+j0)]? else arr[k]?:=by
 induction l with
 | nil=>exact λj0 arr h k=>(if_neg λh=>pQ.mpr h.1 h.2).symm
 | cons x l ih=>
  intro j0 arr h k;have h:sa+j0+(l.length+1)<=arr.size:=h;show (zar sa l (j0+1) (arr.setIfInBounds (sa+j0) x))[k]? = if sa+j0<=k/\k<sa+j0+(l.length+1) then _ else _
  rw[ih (j0+1) _ (by rw[Array.size_setIfInBounds];exact zB6 h) k,Array.getElem?_setIfInBounds]
  by_cases h1:k=sa+j0
  .rw[h1,if_neg (by exact zB0),if_pos rfl,if_pos (by exact zB7 h),if_pos (by exact zBV),fB0];rfl
  .by_cases h2:sa+(j0+1)<=k/\k<sa+(j0+1)+l.length
   .rw[if_pos h2,if_pos (by exact zB1 h2),show k-(sa+j0)=k-(sa+(j0+1))+1 by exact zB3 h2,fAS]
   .rw[if_neg h2,if_neg (by exact zBT h1),if_neg (by exact zC1 h1 h2)]
theorem ziy(i:Nat):mergeAt' i=(do
 let s <-get
 let (some (sa,na,power),some (sb,nb,_)):=((Hq s)[i]?,(Hq s)[i+1]?)|unsupported "internal:list.sort.pending"
 set (setPending s (((Hq s).setIfInBounds i (sa,na+nb,power)).eraseIdxIfInBounds (i+1)))
 let some k <-zaw false (<-elem' (Hu s) sb) (Hu s) sa na 0|return false
 let (sa,na):=(sa+k,na-k)
 if na==0 then return true
 let some nb <-zaw true (<-elem' (Hu s) (sa+na-1)) (Hu s) sb nb (nb-1)|return false
 if nb==0 then return true
 let x:=(Hu s).extract sa sb
 let y:=(Hu s).extract sb (sb+nb)
 let merged <-if na<=nb then zeC x y else zeB x y
 modify λs=>setArr s (merged.toList.zipIdx.foldl (λa (p,j)=>a.setIfInBounds (sa+j) p) (Hu s))
 return (failedOf (<-get)).isNone):=rfl
section
variable{prog:Hj}{w:World}{A:Around}{E:Value->Shared->Prop}{s:Shared}{a₀:Array Hv}{κ:SortKind}{V:Hv->Nat}
theorem zrF{Y:Type}{M:Model}{x:Y}{Q:PUnit->Y->Prop}{st:Y}(h:Q ⟨⟩ x):wpS M A E s (set x:StateT Y Sem PUnit) Q st:=by
 unfold wpS;rw[StateT.run_set];exact G9 ⟨rfl,h⟩
theorem zdZ{x:Array Hv}{i j k:Nat}(h:i+k<j)(hj:j<=x.size):Rk V (x.extract i j) k=Rk V x (i+k):=by
 refine j3 ?_;rw[Array.getElem?_extract,if_pos (by exact zCm h hj)]
theorem size_extract{x:Array Hv}{i j:Nat}(hj:j<=x.size):(x.extract i j).size=j-i:=by rw[Array.size_extract];exact zBn hj
structure MA(κ:SortKind)(V:Hv->Nat)(a₀:Array Hv)(st:SortSt)(i sa na pw nb:Nat)(st':SortSt):Prop where
 sb:SB κ a₀ st'
 srt:Srt V (Hu st') sa (sa+na+nb)
 out:Out (Hu st) (Hu st') sa (sa+na+nb)
 pend:Hq st'=((Hq st).setIfInBounds i (sa,na+nb,pw)).eraseIdxIfInBounds (i+1)
theorem zm9(H:qK prog w A s κ V a₀){st:SortSt}(hB:SB κ a₀ st){i sa na pw nb pw':Nat}(h1:(Hq st)[i]? = some (sa,na,pw))(h2:(Hq st)[i+1]? = some (sa+na,nb,pw'))(hna:1<=na)(hnb:1<=nb)(hsz:sa+na+nb<=a₀.size)
  (S1:Srt V (Hu st) sa (sa+na))(S2:Srt V (Hu st) (sa+na) (sa+na+nb)){Q:Bool->SortSt->Prop}(h:∀st',MA κ V a₀ st i sa na pw nb st'->Q true st'):wpS (model prog w) A E s (mergeAt' i) Q st:=by
 have hsize:=hB.size;have hin:∀p∈(Hu st).toList,p∈a₀.toList:=λp hp=>(fAE.mp hB.perm).mem_iff.mp hp;rw[ziy];refine Hn (wpS_get ?_);rw[h1,h2];refine Hn (zrF ?_);obtain⟨st1,hst1⟩:∃x,x=setPending st (((Hq st).setIfInBounds i (sa,na+nb,pw)).eraseIdxIfInBounds (i+1)):=⟨_,rfl⟩
 rw[<-hst1];have ea:Hu st1=Hu st:=by rw[hst1]
 have ep:Hq st1=((Hq st).setIfInBounds i (sa,na+nb,pw)).eraseIdxIfInBounds (i+1):=by rw[hst1]
 have hB1:SB κ a₀ st1:=by rw[hst1];exact⟨hB.perm,hB.kind,hB.failed⟩
 clear hst1;refine zh (at_some (V:=V) (x:=Hu st) (i:=sa+na) (by exact zDh hnb hsz hsize)) λx hx hmx hrx=>?_;refine Hn (je hx ?_);refine Hn (zal H hB1 (hin x hmx) hin (by exact zC6 hsz hsize) (by exact ztz hna) S1 λk hk hlt hge=>?_);have hlt':∀j,j<k->Rk V (Hu st) (sa+j)<=V x:=λj hj=>by have:=hlt j hj;unfold byd at this;simpa using this
 have hge':∀j,k<=j->j<na->V x<Rk V (Hu st) (sa+j):=λj h4 h5=>by have:=hge j h4 h5;unfold byd at this;simpa using this
 obtain⟨n1,rfl⟩:∃n1,na=k+n1:=⟨na-k,by exact zAo hk⟩
 simp only[fBX]
 by_cases hn0:n1=0
 .rw[if_pos (by simpa using hn0)];refine Ho (h st1 ⟨hB1,λu v h3 h4 h5=>?_,by rw[ea];exact Out.refl _ _ _,ep⟩);rw[ea]
  by_cases hv:v<sa+(k+n1)
  .exact S1 u v h3 h4 hv
  .by_cases hu:u<sa+(k+n1)
   .have q1:=hlt' (u-sa) (by exact zCo hna hn0 hu);rw[show sa+(u-sa)=u by exact ztQ h3] at q1;have q2:=S2 (sa+(k+n1)) v (fN _) (by exact zt5 hv) h5;exact zCP hrx q1 q2
   .exact S2 u v (by exact zt5 hu) h4 h5
 .rw[if_neg (by simpa using hn0)];refine zh (at_some (V:=V) (x:=Hu st) (i:=sa+k+(n1)-1) (by exact zDL hsize hna hsz)) λy hy hmy hry=>?_;refine Hn (je hy ?_);refine Hn (zal H hB1 (hin y hmy) hin (by exact zDM hsize hsz) (by exact zrJ hnb) S2 λm hm mlt mge=>?_);have mlt':∀j,j<m->Rk V (Hu st) (sa+(k+n1)+j)<V y:=λj hj=>by have:=mlt j hj;unfold byd at this;simpa using this
  have mge':∀j,m<=j->j<nb->V y<=Rk V (Hu st) (sa+(k+n1)+j):=λj h4 h5=>by have:=mge j h4 h5;unfold byd at this;simpa using this
  have hylast:Rk V (Hu st) (sa+(k+n1)-1)=V y:=by rw[show sa+(k+n1)-1=sa+k+(n1)-1 by exact zBW];exact hry
  dsimp only
  by_cases hm0:m=0
  .rw[if_pos (by simpa using hm0)];refine Ho (h st1 ⟨hB1,λu v h3 h4 h5=>?_,by rw[ea];exact Out.refl _ _ _,ep⟩);rw[ea]
   by_cases hv:v<sa+(k+n1)
   .exact S1 u v h3 h4 hv
   .by_cases hu:u<sa+(k+n1)
    .have q1:=S1 u (sa+(k+n1)-1) h3 (by exact zCu hu) (by exact ztV hna);have q2:=mge' (v-(sa+(k+n1))) (by exact zDj hm0) (by exact zxe hnb h5);rw[show sa+(k+n1)+(v-(sa+(k+n1)))=v by exact zC2 hv] at q2
     lia
    .exact S2 u v (by exact zt5 hu) h4 h5
  .rw[if_neg (by simpa using hm0)];obtain⟨xa,hxa⟩:∃q,q=(Hu st).extract (sa+k) (sa+(k+n1)):=⟨_,rfl⟩
   obtain⟨yb,hyb⟩:∃q,q=(Hu st).extract (sa+(k+n1)) (sa+(k+n1)+m):=⟨_,rfl⟩
   rw[<-hxa,<-hyb];have sza:xa.size=n1:=by rw[hxa,size_extract (by exact zxh hsize hsz)];exact zwY
   have szb:yb.size=m:=by rw[hyb,size_extract (by exact zxj hsize hsz hm)];exact zxb
   have ra:∀j,j<n1->Rk V xa j=Rk V (Hu st) (sa+k+j):=λj hj=>by rw[hxa];exact zdZ (by exact zt3 hj) (by exact zxh hsize hsz)
   have rb:∀j,j<m->Rk V yb j=Rk V (Hu st) (sa+(k+n1)+j):=λj hj=>by rw[hyb];exact zdZ (by exact zDq hj) (by exact zxj hsize hsz hm)
   have la:xa.toList=((Hu st).toList.drop (sa+k)).take (n1):=by rw[hxa,pW,pY,show sa+(k+n1)-(sa+k)=n1 by exact zwY]
   have lb:yb.toList=((Hu st).toList.drop (sa+(k+n1))).take m:=by rw[hyb,pW,pY,show sa+(k+n1)+m-(sa+(k+n1))=m by exact zxb]
   have MGx:MG prog w A s κ V a₀ xa yb:=by
    refine⟨H,λp hp=>hin p ?_,λp hp=>hin p ?_,λu v _ h4 h5=>?_,λu v _ h4 h5=>?_,λj hj=>?_,λj hj=>?_⟩
    .rw[la] at hp;exact List.mem_of_mem_drop (fBL hp)
    .rw[lb] at hp;exact List.mem_of_mem_drop (fBL hp)
    .rw[sza] at h5;rw[ra u (by exact zrV h4 h5),ra v (by exact ztO h5)];exact S1 _ _ (by exact zw0) (by exact zCV h4) (by exact zt3 h5)
    .rw[szb] at h5;rw[rb u (by exact zrV h4 h5),rb v (by exact ztO h5)];exact S2 _ _ (by exact zxc) (by exact zDt h4) (by exact zxi hm h5)
    .rw[sza] at hj;rw[rb 0 (by exact zy4 hm0),ra j hj];have:=hge' (k+j) (by exact zk1) (by exact ztX hj);simp only[fA3];rw[show sa+(k+j)=sa+k+j by exact zwZ] at this;exact zqg hrx this
    .rw[szb] at hj;rw[rb j hj,ra (xa.size-1) (by exact zAu hn0 sza),sza];have:=mlt' j hj;rw[show sa+k+(n1-1)=sa+(k+n1)-1 by exact zBU hn0]
     lia
   have fin:∀r st',Gl st1 st'->MR V xa yb r->wpS (model prog w) A E s (do
     modify λs=>setArr s (r.toList.zipIdx.foldl (λa (p,j)=>a.setIfInBounds (sa+k+j) p) (Hu s))
     return (failedOf (<-get)).isNone) Q st':=by
    intro r st' g hr0;obtain⟨hrp,hrs⟩:=hr0;obtain⟨rl,hrl⟩:∃l,l=r.toList:=⟨_,rfl⟩
    rw[<-hrl] at hrp hrs ⊢;clear hrl;refine Hn (wpS_modify (Hn (wpS_get (Ho ?_))));have hf:(failedOf (setArr st' (zar (sa+k) rl 0 (Hu st')))).isNone=true:=by
     rw[g.failed,hB1.failed];rfl
    rw[hf];have lr:rl.length=(n1)+m:=by have:=hrp.length_eq;simp only[fF,pA,sza,szb] at this;exact this
    have tl:((Hu st).toList.take (sa+k)).length=sa+k:=by simp;exact zDJ hsize hsz
    have eg:∀j,(zar (sa+k) rl 0 (Hu st'))[j]? = if sa+k<=j/\j<sa+(k+n1)+m then rl[j-(sa+k)]? else (Hu st)[j]?:=λj=>by
     rw[znG (sa+k) rl 0 (Hu st') (by rw[g.arr,ea,lr];exact zDQ hsize hsz hm) j,lr,g.arr,ea];simp only[fA3];rw[show sa+k+(n1+m)=sa+(k+n1)+m by exact zC3]
    have el:(zar (sa+k) rl 0 (Hu st')).toList=(Hu st).toList.take (sa+k)++rl++(Hu st).toList.drop (sa+(k+n1)+m):=by
     apply fCW;intro j;rw[pD,eg j]
     by_cases q1:j<sa+k
     .rw[if_neg (by exact zxf q1),gF,pF (by exact zCK tl q1),List.getElem?_take,if_pos q1,pD]
     .by_cases q2:j<sa+(k+n1)+m
      .rw[if_pos (by exact zDx q1 q2),gF,pN (by exact zCA tl q1),pF (by exact zDR hm0 lr tl q2),tl]
      .rw[if_neg (by exact zDw q2),pN (by rw[fF];exact zDP lr tl q2),fCP,pD,fF,tl,lr]
       congr 1;exact zDu q2
    have hperm:(zar (sa+k) rl 0 (Hu st')).Perm (Hu st):=by
     rw[fAE,el];have e0:(Hu st).toList=(Hu st).toList.take (sa+k)++(xa.toList++yb.toList)++(Hu st).toList.drop (sa+(k+n1)+m):=by
      have e2:xa.toList++yb.toList++(Hu st).toList.drop (sa+(k+n1)+m)=(Hu st).toList.drop (sa+k):=by
       rw[la,lb];have f1:(Hu st).toList.drop (sa+(k+n1))=((Hu st).toList.drop (sa+k)).drop (n1):=by rw[List.drop_drop];congr 1;exact zwZ
       have f2:(Hu st).toList.drop (sa+(k+n1)+m)=((Hu st).toList.drop (sa+(k+n1))).drop m:=by rw[List.drop_drop]
       rw[f2,gF,fBI,f1,fBI]
      rw[gF,e2,fBI]
     conv=>rhs;rw[e0]
     exact List.Perm.append_right _ (List.Perm.append_left _ hrp)
    have hsb:SB κ a₀ (setArr st' (zar (sa+k) rl 0 (Hu st'))):=⟨hperm.trans hB.perm,by show kindOf st'=κ;rw[g.kind];exact hB1.kind,by show failedOf st'=none;rw[g.failed];exact hB1.failed⟩
    refine h _ ⟨hsb,?_,λj hj=>?_,?_⟩
    .have lo_:∀u,u<sa+k->Rk V (zar (sa+k) rl 0 (Hu st')) u=Rk V (Hu st) u:=λu hu=>j3 (by rw[eg u,if_neg (by exact zxf hu)]);have hi_:∀u,sa+(k+n1)+m<=u->Rk V (zar (sa+k) rl 0 (Hu st')) u=Rk V (Hu st) u:=λu hu=>j3 (by rw[eg u,if_neg (by exact zC5 hu)]);have mid:∀u,sa+k<=u->u<sa+(k+n1)+m->∃p,rl[u-(sa+k)]? = some p/\Rk V (zar (sa+k) rl 0 (Hu st')) u=V p/\((∃j,j<n1/\V p=Rk V (Hu st) (sa+k+j))\/∃j,j<m/\V p=Rk V (Hu st) (sa+(k+n1)+j)):=λu q1 q2=>by
      have hl:u-(sa+k)<rl.length:=by exact zt6 hm0 lr q2
      refine zr (rl[u-(sa+k)]) (fU hl) ?_ ?_
      .unfold Rk;rw[eg u,if_pos ⟨q1,q2⟩,fU hl]
      .have hmem:rl[u-(sa+k)]∈xa.toList++yb.toList:=hrp.mem_iff.mp (fA8 hl)
       rcases fT.mp hmem with q|q
       .refine zE (qh (V:=V) (a:=xa) (i:=0) (by simpa using q)) λj _ h6 _ h7=>?_;rw[sza] at h6;exact .inl (zc j h6 (by rw[<-h7,ra j h6]))
       .refine zE (qh (V:=V) (a:=yb) (i:=0) (by simpa using q)) λj _ h6 _ h7=>?_;rw[szb] at h6;exact .inr (zc j h6 (by rw[<-h7,rb j h6]))
     intro u v h3 h4 h5;show Rk V (zar (sa+k) rl 0 (Hu st')) u<=Rk V (zar (sa+k) rl 0 (Hu st')) v
     by_cases c1:v<sa+k
     .rw[lo_ u (by exact zw6 h4 c1),lo_ v c1];exact S1 u v h3 h4 (by exact zCv c1)
     .by_cases c2:v<sa+(k+n1)+m
      .refine zh (mid v (by exact zt0 c1) c2) λp hp1 hp2 hp3=>?_
       by_cases c3:u<sa+k
       .rw[lo_ u c3,hp2];have q1:=hlt' (u-sa) (by exact zwU h3 c3);rw[show sa+(u-sa)=u by exact ztQ h3] at q1
        rcases hp3 with⟨j,h6,h7⟩|⟨j,h6,h7⟩
        .rw[h7];exact S1 u _ h3 (by exact zCx c3) (by exact zt3 h6)
        .have:=S2 (sa+(k+n1)) (sa+(k+n1)+j) (fN _) (by exact zxc) (by exact zxi hm h6);exact zDo hrx q1 h7 this
       .clear hp3;refine zh (mid u (by exact zt0 c3) (by exact zDI h4 c2)) λp' hp1' hp2' hp3'=>?_;clear hp3';rw[hp2,hp2']
        by_cases c4:u=v
        .subst c4;rw[hp1] at hp1';cases hp1';exact fN _
        .have:=fA2.mp hrs (u-(sa+k)) (v-(sa+k)) (by exact zxk hm0 lr h4 c2) (by exact zt6 hm0 lr c2) (by exact zCH h4 c3 c4);rw[fU (by (first|exact zt6 hm0 lr c2|exact zxk hm0 lr h4 c2))] at hp1 hp1';rw[<-Hy hp1,<-Hy hp1'];exact this
      .rw[hi_ v (by exact zxg c2)];have q2:V y<=Rk V (Hu st) v:=by
        have:=mge' (v-(sa+(k+n1))) (by exact zDv c2) (by exact zxe hnb h5);rwa [show sa+(k+n1)+(v-(sa+(k+n1)))=v by exact zDy c2] at this
       by_cases c3:u<sa+k
       .rw[lo_ u c3];have:=S1 u (sa+(k+n1)-1) h3 (by exact zCw c3) (by exact ztV hna)
        lia
       .by_cases c4:u<sa+(k+n1)+m
        .refine zh (mid u (by exact zt0 c3) c4) λp hp1 hp2 hp3=>?_;rw[hp2]
         rcases hp3 with⟨j,h6,h7⟩|⟨j,h6,h7⟩
         .have:=S1 (sa+k+j) (sa+(k+n1)-1) (by exact zw0) (by exact zCO h6) (by exact ztV hna)
          lia
         .have:=mlt' j h6;exact zCT q2 h7 this
        .rw[hi_ u (by exact zxg c4)];exact S2 u v (by exact zDz c4) h4 h5
    .show (zar (sa+k) rl 0 (Hu st'))[j]? = (Hu st)[j]?;rw[eg j,if_neg (by exact zDO hm hj)]
    .rw[g.pend,ep]
   split
   .exact Hn (znb MGx hB1 (by exact zrS hn0 sza) (by exact zrS hm0 szb) fin)
   .exact Hn (zna MGx hB1 (by exact zrS hn0 sza) (by exact zrS hm0 szb) fin)
end
noncomputable abbrev Run:=Nat×Nat×Nat
noncomputable def RunsL(V:Hv->Nat)(arr:Array Hv):Nat->List Run->Nat->Prop
 | lo,[],hi=>lo=hi
 | lo,p::r,hi=>p.1=lo/\1<=p.2.1/\Srt V arr lo (lo+p.2.1)/\RunsL V arr (lo+p.2.1) r hi
section
variable{V:Hv->Nat}{arr arr':Array Hv}
theorem RunsL.len{l:List Run}:∀{lo hi:Nat},RunsL V arr lo l hi->lo+l.length<=hi:=by
 induction l with
 | nil=>exact λh=>pC h
 | cons p r ih=>exact λh=>(zCq h.2.1 (ih h.2.2.2):_)
theorem Srt.out{a b x y:Nat}(h:Srt V arr a b)(o:Out arr arr' x y)(d:b<=x\/y<=a):Srt V arr' a b:=λi j h1 h2 h3=>by
 have e1:Rk V arr' i=Rk V arr i:=j3 (o i (zDE d h1 h2 h3));have e2:Rk V arr' j=Rk V arr j:=j3 (o j (zDF d h1 h2 h3));rw[e1,e2];exact h i j h1 h2 h3
theorem RunsL.out{x y:Nat}(o:Out arr arr' x y){l:List Run}:∀{lo hi:Nat},RunsL V arr lo l hi->(hi<=x\/y<=lo)->RunsL V arr' lo l hi:=by
 induction l with
 | nil=>exact λh _=>h
 | cons p r ih=>exact λh d=>⟨h.1,h.2.1,h.2.2.1.out o (zDG d (RunsL.len h.2.2.2)),ih h.2.2.2 (zDc d)⟩
theorem RunsL.split{l1 l2:List Run}:∀{lo hi:Nat},RunsL V arr lo (l1++l2) hi->∃m,RunsL V arr lo l1 m/\RunsL V arr m l2 hi:=by
 induction l1 with
 | nil=>exact λh=>⟨_,rfl,h⟩
 | cons p r ih=>exact λh=>(ih h.2.2.2).imp λm q=>⟨⟨h.1,h.2.1,h.2.2.1,q.1⟩,q.2⟩
theorem RunsL.join{l1 l2:List Run}:∀{lo m hi:Nat},RunsL V arr lo l1 m->RunsL V arr m l2 hi->RunsL V arr lo (l1++l2) hi:=by
 induction l1 with
 | nil=>exact λh h'=>(show _=_ from h)▸h'
 | cons p r ih=>exact λh h'=>⟨h.1,h.2.1,h.2.2.1,ih h.2.2.2 h'⟩
theorem RunsL.congr{l:List Run}:∀{l':List Run} {lo hi:Nat},l.map (λp=>(p.1,p.2.1))=l'.map (λp=>(p.1,p.2.1))->RunsL V arr lo l hi->RunsL V arr lo l' hi:=by
 induction l with
 | nil=>
  intro l' lo hi e h;cases l' with
  | nil=>exact h
  | cons=>exact nomatch e
 | cons p r ih=>
  intro l' lo hi e h;cases l' with
  | nil=>exact nomatch e
  | cons p' r'=>
   have e':=List.cons.inj e;have e3:(p.1,p.2.1)=(p'.1,p'.2.1):=e'.1;have e1:=(Prod.mk.inj e3).1;have e2:=(Prod.mk.inj e3).2;exact⟨e1▸h.1,e2▸h.2.1,e2▸h.2.2.1,e2▸ih e'.2 h.2.2.2⟩
theorem zp2{α:Type}{l:List α}{i:Nat}{x y:α}(h1:l[i]? = some x)(h2:l[i+1]? = some y):l=l.take i++x::y::l.drop (i+2):=by
 obtain⟨a1,b1⟩:=fW.mp h1;obtain⟨a2,b2⟩:=fW.mp h2;have e1:l.drop i=x::l.drop (i+1):=by rw[fAI a1,b1]
 have e2:l.drop (i+1)=y::l.drop (i+2):=by rw[fAI a2,b2]
 rw[<-e2,<-e1,fBI]
theorem zrB{α:Type}{l:List α}{i:Nat}{x y z:α}(h1:l[i]? = some x)(h2:l[i+1]? = some y):(l.set i z).eraseIdx (i+1)=l.take i++z::l.drop (i+2):=by
 have e:=zp2 h1 h2;have hi:i<l.length:=(fW.mp h1).1;have hl:(l.take i).length=i:=by simp;exact zwn hi
 conv=>lhs;rw[e]
 rw[List.set_append_right _ _ (by exact zwq hl),hl,fB0,List.set_cons_zero,fBZ (by exact zzY hl),hl,show i+1-i=1 by exact zzc]
 rfl
end
section
variable{prog:Hj}{w:World}{A:Around}{E:Value->Shared->Prop}{s:Shared}{a₀:Array Hv}{κ:SortKind}{V:Hv->Nat}
theorem zpH(H:qK prog w A s κ V a₀){st:SortSt}(hB:SB κ a₀ st){i hi:Nat}(hR:RunsL V (Hu st) 0 (Hq st).toList hi)(hh:hi<=a₀.size)(hi1:i+1<(Hq st).size){Q:Bool->SortSt->Prop}
  (h:∀st',SB κ a₀ st'->RunsL V (Hu st') 0 (Hq st').toList hi->(Hq st').size+1=(Hq st).size->Out (Hu st) (Hu st') 0 hi->Q true st'):wpS (model prog w) A E s (mergeAt' i) Q st:=by
 obtain⟨⟨sa,na,pw⟩,h1⟩:∃p,(Hq st)[i]? = some p:=⟨_,getElem?_pos _ i (by exact zhu hi1)⟩
 obtain⟨⟨sb,nb,pw'⟩,h2⟩:∃p,(Hq st)[i+1]? = some p:=⟨_,getElem?_pos _ (i+1) hi1⟩
 have h1':(Hq st).toList[i]? = some (sa,na,pw):=by rw[pD];exact h1
 have h2':(Hq st).toList[i+1]? = some (sb,nb,pw'):=by rw[pD];exact h2
 have e:=zp2 h1' h2';rw[e] at hR;refine zhS hR.split λm R1 q0 q1 q2 p0 p1 p2 R2=>?_;simp only at q0 q1 q2 p0 p1 p2 R2;subst q0;subst p0;have hle:=R2.len;refine zm9 H hB h1 h2 q1 p1 (zDN hh hle) q2 p2 λst' M=>?_;have et:(Hq st').toList=(Hq st).toList.take i++(sa,na+nb,pw)::(Hq st).toList.drop (i+2):=by
  rw[M.pend,Array.toList_eraseIdxIfInBounds,Array.toList_setIfInBounds,zrB h1' h2']
 refine h st' M.sb ?_ ?_ (M.out.wide (fX _) (zC4 hle))
 .rw[et];refine(R1.out M.out (.inl (fN _))).join (zp rfl (by simp only;exact ztK q1) (by rw[<-fAP];exact M.srt) ?_);rw[<-fAP];exact R2.out M.out (.inr (fN _))
 .have l1:=congrArg List.length et;have l2:=congrArg List.length e;simp only[pA,fF,fH] at l1 l2;exact zCz l1 l2
end
noncomputable def zxL(sz pw:Nat):StateT SortSt Sem (ForInStep (Option Unit×Unit)):=do
 let g <-get
 match (if (Hq g).size>1 then (Hq g)[(Hq g).size-2]? else none) with
 | some (_,_,older)=>
  if older<=pw then pure (.done (none,()))
  else do
   let b <-mergeAt' ((Hq g).size-2)
   if (!b)=true then pure (.done (some (),())) else pure (.yield (none,()))
 | _=>pure (.done (none,()))
noncomputable def tR(sz lo n:Nat):StateT SortSt Sem (ForInStep (Option Unit×Nat)):=do
 let g <-get
 match (Hq g).back? with
 | some (s1,n1,_)=>do
  let r <-forIn [0:sz] ((none,()):Option Unit×Unit) λ_ _=>zxL sz (power' sz (2*s1+n1) (2*s1+n1+n1+n) sz)
  match r.1 with
  | some r=>pure (.done (some r,lo))
  | none=>do
   modify λs=>setPending s ((Hq s).modify ((Hq s).size-1) λ(st,len,_)=>(st,len,power' sz (2*s1+n1) (2*s1+n1+n1+n) sz))
   modify λs=>setPending s ((Hq s).push (lo,n,0))
   pure (.yield (none,lo+n))
 | _=>do
  modify λs=>setPending s ((Hq s).push (lo,n,0))
  pure (.yield (none,lo+n))
noncomputable def oL(sz mr:Nat)(c:Option Unit×Nat):StateT SortSt Sem (ForInStep (Option Unit×Nat)):=
 if c.2>=sz then pure (.done (none,c.2))
 else do
  let x <-countRun' c.2 (sz-c.2)
  match x with
  | some za8=>
   if za8<mr then do
    liftM (rule "list.sort.binary-insertion")
    let b <-binarySort' c.2 (min (sz-c.2) mr) za8
    if (!b)=true then pure (.done (some (),c.2)) else tR sz c.2 (min (sz-c.2) mr)
   else tR sz c.2 za8
  | _=>pure (.done (some (),c.2))
noncomputable def fL:StateT SortSt Sem (ForInStep (Option Unit×Unit)):=do
 let g <-get
 if (Hq g).size<=1 then pure (.done (none,()))
 else do
  let b <-mergeAt' (if Option.any (λx=>decide (x<(Hq g)[(Hq g).size-2+1]?.elim 0 λx=>x.snd.fst)) (if (Hq g).size-2>0 then Option.map (λx=>x.snd.fst) (Hq g)[(Hq g).size-2-1]? else none)=true then (Hq g).size-2-1 else (Hq g).size-2)
  if (!b)=true then pure (.done (some (),())) else pure (.yield (none,()))
noncomputable def zuI:StateT SortSt Sem Unit:=do
 let g <-get
 let r <-forIn [0:(Hu g).size] ((none,0):Option Unit×Nat) λ_ c=>oL (Hu g).size (minRun' (Hu g).size (Hu g).size 0) c
 match r.1 with
 | some r=>pure r
 | none=>do
  let q <-forIn [0:(Hu g).size] ((none,()):Option Unit×Unit) λ_ _=>fL
  match q.1 with
  | some r=>pure r
  | none=>pure ()
theorem zoZ:sortRuns'=zuI:=by kernel_rfl
noncomputable def zlR:Nat:=1000000
section
variable{prog:Hj}{w:World}{A:Around}{E:Value->Shared->Prop}{s:Shared}{a₀:Array Hv}{κ:SortKind}{V:Hv->Nat}
theorem zuV(H:qK prog w A s κ V a₀){st:SortSt}(hB:SB κ a₀ st){lo n:Nat}(hR:RunsL V (Hu st) 0 (Hq st).toList lo)(hn:1<=n)(hs:Srt V (Hu st) lo (lo+n))(hl:lo+n<=a₀.size){Q:ForInStep (Option Unit×Nat)->SortSt->Prop}
  (h:∀st',SB κ a₀ st'->RunsL V (Hu st') 0 (Hq st').toList (lo+n)->Q (.yield (none,lo+n)) st'):wpS (model prog w) A E s (tR a₀.size lo n) Q st:=by
 have fin:∀(st':SortSt),SB κ a₀ st'->RunsL V (Hu st') 0 (Hq st').toList lo->Srt V (Hu st') lo (lo+n)->Q (.yield (none,lo+n)) (setPending st' ((Hq st').push (lo,n,0))):=λst' hB' hR' hs'=>by
  refine h _ ⟨hB'.perm,hB'.kind,hB'.failed⟩ ?_;rw[gI];exact hR'.join (zp rfl hn hs' rfl)
 refine Hn (wpS_get ?_);cases hb:(Hq st).back? with
 | none=>exact Hn (wpS_modify (Ho (fin st hB hR hs)))
 | some p=>
  obtain⟨s1,n1,pw⟩:=p;generalize power' a₀.size (2*s1+n1) (2*s1+n1+n1+n) a₀.size=pw';refine Hn (Hp (Hr (I:=λx c st'=>c=(none,())/\SB κ a₀ st'/\RunsL V (Hu st') 0 (Hq st').toList lo/\Srt V (Hu st') lo (lo+n))
   (Q:=λc st'=>c=(none,())/\SB κ a₀ st'/\RunsL V (Hu st') 0 (Hq st').toList lo/\Srt V (Hu st') lo (lo+n)) ?step (λc st' hh=>hh) (zp rfl hB hR hs)) ?post)
  case step=>
   intro x c st' _ hx hR1;refine zB hR1 λe4_0 hB' hR' hs'=>?_;subst e4_0;refine Hn (wpS_get ?_)
   by_cases hsz:(Hq st').size>1
   .rw[if_pos hsz];obtain⟨⟨u,v,older⟩,hq⟩:∃p,(Hq st')[(Hq st').size-2]? = some p:=⟨_,getElem?_pos _ _ (by exact zyU hsz)⟩
    rw[hq];dsimp only;split
    .exact Ho (zp rfl hB' hR' hs')
    .refine Hn (zpH H hB' hR' (zA1 hl) (zyT hsz) λst'' hB'' hR'' _ ho=>?_);exact Ho (zp rfl hB'' hR'' (hs'.out ho (.inr (fN _))))
   .rw[if_neg hsz];exact Ho (zp rfl hB' hR' hs')
  case post=>
   intro c st' hR2;refine zB hR2 λe5_0 hB' hR' hs'=>?_;subst e5_0;refine Hn (wpS_modify (Hn (wpS_modify (Ho ?_))));refine fin (setPending st' _) ⟨hB'.perm,hB'.kind,hB'.failed⟩ ?_ hs';refine RunsL.congr ?_ hR';rw[Array.toList_modify];apply fCW;intro j;simp only[pZ,List.getElem?_modify];split<;>cases (Hq st').toList[j]?<;>rfl
theorem zeS(H:qK prog w A s κ V a₀){st:SortSt}(hB:SB κ a₀ st)(hp:Hq st = #[])(h2:2<=a₀.size)(hmx:a₀.size<=zlR){Q:Unit->SortSt->Prop}
  (h:∀st',SB κ a₀ st'->Srt V (Hu st') 0 a₀.size->Q () st'):wpS (model prog w) A E s sortRuns' Q st:=by
 rw[zoZ];refine Hn (wpS_get ?_);simp only[hB.size];have hmr:1<=minRun' a₀.size a₀.size 0:=by
  have gen:∀f n r,1<=n->1<=minRun' f n r:=by
   intro f
   induction f with
   | zero=>intro n r hn;exact ztK hn
   | succ f ih=>
    intro n r hn;rw[minRun'_succ];split
    .exact ztK hn
    .exact ih _ _ (by lia)
  exact gen _ _ _ (ztB h2)
 generalize minRun' a₀.size a₀.size 0=mr at hmr;refine Hn (Hp (Hr (I:=λx c st'=>∃lo,c=(none,lo)/\SB κ a₀ st'/\RunsL V (Hu st') 0 (Hq st').toList lo/\lo<=a₀.size/\min x a₀.size<=lo)
  (Q:=λc st'=>c=(none,a₀.size)/\SB κ a₀ st'/\RunsL V (Hu st') 0 (Hq st').toList a₀.size) ?step ?fin (zeh 0 rfl hB (by rw[hp];rfl) (fX _) zzh)) ?post)
 case fin=>
  intro c st' hR3;refine zhR hR3 λlo e6_1 hB' hR' hl hx=>?_;subst e6_1;have:lo=a₀.size:=zz6 hl hx;subst this;exact zo rfl hB' hR'
 case step=>
  intro x c st' _ hx hR4;refine zhR hR4 λlo e7_1 hB' hR' hl hxl=>?_;subst e7_1;unfold oL;dsimp only
  by_cases hge:lo>=a₀.size
  .rw[if_pos hge];have:lo=a₀.size:=ztP hl hge;subst this;exact Ho (zo rfl hB' hR')
  .rw[if_neg hge];refine Hn (zkw H (zAt hge) (zAv hge) hB' λm st2 R=>?_);dsimp only;have hR2:RunsL V (Hu st2) 0 (Hq st2).toList lo:=by rw[R.pend];exact hR'.out R.out (.inl (fN _))
   have hm:=R.le;have hm1:=R.m1;split
   .rename_i hlt
    refine Hn (wpS_lift (Hd ⟨rfl,?_⟩));refine Hn (zhd H (n:=min (a₀.size-lo) mr) (zt4 hm hm1) (zw5 hmr hm hm1) (zCD hm hlt) R.sb R.srt λst3 R3=>?_);simp only[fC0,gK,if_false];have hR3:RunsL V (Hu st3) 0 (Hq st3).toList lo:=by rw[R3.pend];exact hR2.out R3.out (.inl (fN _))
    exact zuV H R3.sb hR3 (zw5 hmr hm hm1) R3.srt (zt4 hm hm1) λst4 hB4 hR4=>(zeh _ rfl hB4 hR4 (zt4 hm hm1) (zCr hmr hxl))
   .exact zuV H R.sb hR2 hm1 R.srt (zwT hm hm1) λst4 hB4 hR4=>(zeh _ rfl hB4 hR4 (zwT hm hm1) (zCa hxl hm1))
 case post=>
  intro c st' hR5;refine zZ hR5 λe8_0 hB' hR'=>?_;subst e8_0;refine Hn (Hp (Hr (I:=λx c st''=>c=(none,())/\SB κ a₀ st''/\RunsL V (Hu st'') 0 (Hq st'').toList a₀.size/\(Hq st'').size<=max 1 (a₀.size-x))
   (Q:=λc st''=>c=(none,())/\SB κ a₀ st''/\RunsL V (Hu st'') 0 (Hq st'').toList a₀.size/\(Hq st'').size<=1) ?step2 ?fin2 (zp rfl hB' hR' (by have:=hR'.len;simp at this;lia))) ?post2)
  case fin2=>
   intro c st'' hR6;refine zB hR6 λe9_0 hB2 hR2 hsz=>?_;subst e9_0;exact zp rfl hB2 hR2 (zz2 hsz)
  case step2=>
   intro x c st'' _ hx hR7;refine zB hR7 λe10_0 hB2 hR2 hsz=>?_;subst e10_0;refine Hn (wpS_get ?_)
   by_cases h1:(Hq st'').size<=1
   .rw[if_pos h1];exact Ho (zp rfl hB2 hR2 h1)
   .rw[if_neg h1];refine Hn (zpH H hB2 hR2 (fN _) ?_ λst3 hB3 hR3 hs3 _=>?_)
    .have gen:∀(c:Bool) (n:Nat),2<=n->(if c=true then n-2-1 else n-2)+1<n:=λc n hn=>by cases c<;>simp<;>(first|exact zyD hn|exact zyB hn)
     exact gen _ _ (zy7 h1)
    .exact Ho (zp rfl hB3 hR3 (zCW hsz hs3))
  case post2=>
   intro c st'' hR8;refine zB hR8 λe11_0 hB2 hR2 hsz=>?_;subst e11_0;refine Ho (h st'' hB2 ?_);have hl:(Hq st'').toList.length<=1:=by simpa using hsz
   generalize (Hq st'').toList=l at hR2 hl
   match l,hR2,hl with
   | [],hR2,_=>have:0=a₀.size:=hR2;lia
   | [p],⟨_,_,h3,h4⟩,_=>
    have:0+p.2.1=a₀.size:=h4;rw[this] at h3;exact h3
   | _::_::_,_,hl=>simp at hl
end
theorem zhx{vs:List Value}{out:Array Hv}(h:out.Perm (vs.toArray.zip vs.toArray)):(out.map (·.2)).toList.Perm vs/\∀p∈out.toList,p.1=p.2:=by
 have h':=fAE.mp h;have e:(vs.toArray.zip vs.toArray).toList=vs.zip vs:=by simp
 rw[e] at h';have z:∀(l:List Value),(l.zip l).map (·.2)=l/\∀p∈l.zip l,p.1=p.2:=by
  intro l
  induction l with
  | nil=>exact⟨rfl,λp hp=>by simp at hp⟩
  | cons x l ih=>exact⟨by simp[ih.1],λp hp=>by
    rcases fJ.mp hp with e|hp
    .rw[e]
    .exact ih.2 p hp⟩
 refine⟨?_,λp hp=>(z vs).2 p (h'.mem_iff.mp hp)⟩;have:=h'.map (·.2);rw[(z vs).1] at this
 simpa using this
section
variable{prog:Hj}{w:World}{A:Around}{E:Value->Shared->Prop}{s:Shared}
theorem zkx{a:Addr}{vs:List Value}{n:Nat}{P:PySem.Fin->Shared->Prop}(V:Value->Nat)(ho:s.heap.get? a=some (Hw "list" vs.toArray n))(hlen:vs.length<=1000000)(hmx:vs.length<=zlR)
  (hk:∀h':Heap,(∀b o,b≠a->s.heap.get? b=some o->h'.get? b=some o)->2<=vs.length->∃κ,(∀(Q:SortKind->Shared->Prop),Q κ { s with heap:=h' }->wpAny (model prog w) A (keyKind' vs.toArray) Q E { s with heap:=h' })/\
   qK prog w A { s with heap:=h' } κ (λp=>V p.1) (vs.toArray.zip vs.toArray))
  (h:∀(out:List Value) c (h3:Heap),out.Perm vs->out.Pairwise (λx y=>V x<=V y)->h3.get? a=some (Hw "list" out.toArray c)->(∀b o,b≠a->s.heap.get? b=some o->h3.get? b=some o)->P (.done (.ret .none)) { s with heap:=h3 }) :
  wpAny (model prog w) A (Builtin.«list.sort» ⟨[.ref a],[]⟩) P E s:=by
 obtain⟨e1,ho1⟩:∃e1,(s.heap.update a (Obj.mapSeq λ_=>(#[]:Array Value))).get? a=some (Hw "list" #[] e1):=⟨_,Hx ho λ_=>#[]⟩
 have s1:=Heap.SameBut.update s.heap a (Obj.mapSeq λ_=>(#[]:Array Value));obtain⟨h2,hh2⟩:∃x,x=((s.heap.update a (Obj.mapSeq λ_=>(#[]:Array Value))).push (Hw "tuple" vs.toArray 0)).push (Hw "list" #[] 0):=⟨_,rfl⟩
 have keep2:∀b o,b≠a->s.heap.get? b=some o->h2.get? b=some o:=λb o hb e=>by
  rw[hh2];exact Heap.get?_push_of_some _ (Heap.get?_push_of_some _ ((s1.2 b hb).trans e))
 have ho2:h2.get? a=some (Hw "list" #[] e1):=by rw[hh2];exact Heap.get?_push_of_some _ (Heap.get?_push_of_some _ ho1)
 rw[list_sort_plain];refine G8 (Ht ho rfl ?_);refine G8 (Hs ho rfl ?_ (by rw[gB,Hc];exact zht hlen) (fX _));refine G8 (seqEpoch_at ho1 rfl ?_);refine G8 (wpAny_newTuple ?_ (by show vs.length<=_;rw[Hc];exact zht hlen));refine G8 (Hg ?_ (fX _));refine Hb ?_;rw[<-hh2];have rest:∀st':SortSt,(Hu st').Perm (vs.toArray.zip vs.toArray)->failedOf st'=none->(Hu st').toList.Pairwise (λx y=>V x.1<=V y.1)->wpAny (model prog w) A (do
   let touched:=(<-seqEpoch a) != e1
   Builtin.List.listUpdate (.ref a) λ_=>(Hu st').map (·.2)
   if let some e:=failedOf st' then rule "list.sort.comparison-raised";throw e
   if touched then rule "list.sort.modified";raiseError "ValueError" "list modified during sort"
   ret .none) P E { s with heap:=h2 }:=by
  intro st' hp hf hs;obtain⟨z1,z2⟩:=zhx hp;have hl:=z1.length_eq;obtain⟨c2,hc2⟩:∃c2,(h2.update a (Obj.mapSeq λ_=>(Hu st').map (·.2))).get? a=some (Hw "list" ((Hu st').map (·.2)) c2):=⟨_,Hx ho2 λ_=>(Hu st').map (·.2)⟩
  have s2:=Heap.SameBut.update h2 a (Obj.mapSeq λ_=>(Hu st').map (·.2));refine G8 (seqEpoch_at ho2 rfl ?_);refine G8 (Hs ho2 rfl ?_ (fX _) (by
   have:((Hu st').map (·.2)).size=vs.length:=by rw[<-hl];simp
   rw[this,Hc];exact zyY hlen))
  rw[hf];simp only[bne_self_eq_false,gK,if_false];refine G9 (h ((Hu st').map (·.2)).toList c2 _ z1 ?_ (by rw[hc2]) λb o hb e=>(s2.2 b hb).trans (keep2 b o hb e));rw[Array.toList_map,fA4];exact hs.imp_of_mem λ{x y} hx hy hxy=>by rw[<-z2 x hx,<-z2 y hy];exact hxy
 by_cases hn:vs.length<2
 .have hn2:vs.toArray.size<2:=by rw[gB];exact hn
  rw[if_pos hn2,if_pos hn2];refine G8 (G9 ?_);refine G8 ?_;refine G9 ?_;refine rest (SortSt.mk' general' (vs.toArray.zip vs.toArray) #[] 7 none) (.refl _) rfl ?_;have:(vs.toArray.zip vs.toArray).toList.length<2:=by simp;exact zyF hn
  generalize (vs.toArray.zip vs.toArray).toList=l at this
  match l,this with
  | [],_=>exact .nil
  | [x],_=>exact pO _ _
  | _::_::_,h=>simp only[fH] at h;lia
 .have hn2:¬vs.toArray.size<2:=by rw[gB];exact hn
  rw[if_neg hn2,if_neg hn2];refine zb (hk h2 keep2 (zvZ hn)) λκ hq H=>?_;refine G8 (hq _ ?_);have hB:SB κ (vs.toArray.zip vs.toArray) (SortSt.mk' κ (vs.toArray.zip vs.toArray) #[] 7 none):=⟨.refl _,rfl,rfl⟩
  have run:=zeS (E:=E) (Q:=λ_ st'=>(Hu st').Perm (vs.toArray.zip vs.toArray)/\failedOf st'=none/\(Hu st').toList.Pairwise (λx y=>V x.1<=V y.1)) H hB rfl (by simp;exact zvZ hn) (by simpa using hmx) λst' hB' hs=>(zo hB'.perm hB'.failed (by
   have:=hB'.size;exact j7 (V:=λp=>V p.1) (by rw[this];exact hs)))
  refine G8 (Ha run (λr s' hr=>?_) λ_ _ e=>e);obtain⟨⟨⟩,st'⟩:=r;refine zB hr λe3_0 hp hf hs=>?_;subst e3_0;exact rest st' hp hf hs
theorem zmO{b:Bool}{t:Bool}{Q:Bool->Shared->Prop}(xs:List PyData):∀(ys:List PyData) {vs ws:List Value} {as bs:List Addr} {fin:Bool} {i:Nat},ReadsAll s.heap vs xs as->ReadsAll s.heap ws ys bs->PyData.canLayAll0 xs=true->PyData.canLayAll0 ys=true->A.units+2*PyData.depthAll xs+10<cLine->
  fin=decide (xs.length<ys.length)->(i=0->b=true->∀x y,xs.head? = some x->ys.head? = some y->(∃u v,x = .int u/\y = .int v)\/∃u v,x = .str u/\y = .str v)->zbV xs ys=some t->Q t s->KatLex prog w A b fin Q (vs.zip ws) i s:=by
 induction xs with
 | nil=>
  intro ys vs ws as bs fin i rx ry ha hb hu hf hi e q;rw[jW rx];have e1:t=fin:=Hy (e.symm.trans (show zbV [] ys=some fin by rw[hf];cases ys<;>rfl));exact kat_nil (e1▸q)
 | cons x xs ih=>
  intro ys vs ws as bs fin i rx ry ha hb hu hf hi e q;refine q9 (jG rx) λ_ _ _ _ z1 h1 h2=>?_;rw[z1];cases ys with
  | nil=>rw[jW ry];exact kat_nil ((Hy e).symm.trans hf.symm▸q)
  | cons y ys=>
   refine q9 (jG ry) λ_ _ _ _ z1 k1 k2=>?_;rw[z1];have ha:=(gX _ _).mp ha;have hb:=(gX _ _).mp hb;have hu:A.units+2*max x.depth (PyData.depthAll xs)+10<cLine:=hu;have heq:=eqAt_reads x y A s _ _ _ _ h1 k1 ha.1 hb.1 (zxd hu);rw[qY] at e;refine kat_cons (heq prog w _ _ ?_);cases hE:PyData.eqv x y with
   | true=>
    rw[hE] at e;exact kat_yes (ih ys h2 k2 ha.2 hb.2 (zw2 hu) (hf.trans (decide_eq_decide.mpr fCD)) (λh0=>nomatch h0) e q)
   | false=>
    rw[hE] at e;refine kat_no ?_;cases hbi:(b&&i==0) with
    | false=>
     rw[oneLt'_eq];exact G8 (zio x y h1 k1 ha.1 hb.1 (zw1 hu) e prog w _ _ (wpAny_truthy_bool q))
    | true=>
     have hbi:=(gX _ _).mp hbi
     rcases hi (beq_iff_eq.mp hbi.2) hbi.1 x y rfl rfl with h|h
     .refine js h λu u' f1 f2=>?_;subst f1 f2;refine z8 (zbt h1) λ_ z1=>z8 (zbt k1) λ_ z2=>?_;rw[z1,z2];exact oneLt_int ((Hy e).symm▸q)
     .refine js h λu u' f1 f2=>?_;subst f1 f2;refine z8 (zbu h1) λ_ z1=>z8 (zbu k1) λ_ z2=>?_;rw[z1,z2];exact oneLt_str ((Hy e).symm▸q)
end
theorem zx1{a b:Nat}(h:a<b↔b<a):a=b:=fBG (pQ.mp λl=>Nat.lt_asymm l (h.mpr l)) (pQ.mp λl=>Nat.lt_asymm l (h.mp l))
theorem zb1{Y:AHeap}{h:Heap}{xs:List AV}{v:Value}{vs:List Value}(r:RepVs Y h xs (v::vs)):∃x xs',xs=x::xs'/\RepV Y h x v/\RepVs Y h xs' vs:=by
 cases r with
 | cons a r=>exact zN _ _ rfl a r
theorem RepVs.perm{Y:AHeap}{h:Heap}{vs ws:List Value}(p:ws.Perm vs):∀{xs},RepVs Y h xs vs->∃ys,ys.Perm xs/\RepVs Y h ys ws:=by
 induction p with
 | nil=>intro xs r;exact⟨xs,.refl _,r⟩
 | cons v p ih=>
  intro xs r;obtain⟨x,xs',rfl,a,r⟩:=zb1 r;obtain⟨ys,h1,h2⟩:=ih r;exact⟨x::ys,.cons x h1,.cons a h2⟩
 | swap v w l=>
  intro xs r;obtain⟨x,xs',rfl,a,r⟩:=zb1 r;obtain⟨y,xs'',rfl,b,r⟩:=zb1 r;exact⟨y::x::xs'',.swap ..,.cons b (.cons a r)⟩
 | trans p q ih1 ih2=>
  intro xs r;refine zb (ih2 r) λys h1 h2=>?_;refine zb (ih1 h2) λzs h3 h4=>?_;exact zc zs (h3.trans h1) h4
theorem RepVs.pair{Y:AHeap}{h:Heap}{V:AV->Nat}{VV:Value->Nat}{ys:List AV}:∀{out:List Value},RepVs Y h ys out->(∀y∈ys,∀v,RepV Y h y v->VV v=V y)->out.Pairwise (λx y=>VV x<=VV y)->ys.Pairwise (λx y=>V x<=V y):=by
 induction ys with
 | nil=>intro out _ _ _;exact .nil
 | cons x ys ih=>
  intro out r hρ hp;obtain⟨v,vs,rfl,a,r⟩:=RepVs.wF r;obtain⟨h1,h2⟩:=gE.mp hp;refine gE.mpr ⟨λy hy=>?_,ih r (λy hy=>hρ y (fB _ hy)) h2⟩;obtain⟨i,hi⟩:=fAL.mp hy;obtain⟨w,hw,rw_⟩:=r.get hi;have:=h1 w (fAB hw);rw[hρ x fA v a,hρ y (fB _ hy) w rw_] at this;exact this
theorem zel{Y:AHeap}{h:Heap}{T:Value}{M:Model}{xs:List AV}:∀{vs:List Value},RepVs Y h xs vs->(∀x∈xs,∃y r,x = .tup (y::r)/\∀v,RepV Y h y v->Looks M h (typeOf v) T)->∃fs,KatTups h vs fs/\fs.length=vs.length/\∀v∈fs,Looks M h (typeOf v) T:=by
 induction xs with
 | nil=>intro vs r _;obtain rfl:=RepVs.wG r;exact⟨[],.nil,rfl,λv hv=>nomatch hv⟩
 | cons x xs ih=>
  intro vs r hx;cases r with
  | @cons _ _ v vs a r=>
  refine zh (ih r λx hx'=>hx x (fB _ hx')) λfs h1 h2 h3=>?_;refine js (hx x fA) λy ys e11_2 hl=>?_;subst e11_2;refine zj (RepV.wH a) λt ws e12_2 hlen ht rs=>?_;subst e12_2;refine jM ht λo ho hc n hd=>?_;refine zm (RepVs.wF rs) λu us e14_2 ru rus=>?_;subst e14_2;exact zr (u::fs) (.cons ho hc hd rfl h1) (by simp[h2]) (λw hw=>by
   rcases fJ.mp hw with e|hw
   .subst e;exact hl w ru
   .exact h3 w hw)
theorem zcD{h:Heap}{ds:List PyData}:∀{z:List Value} {as:List Addr},ReadsAll h z ds as->z.length=ds.length:=by
 induction ds with
 | nil=>exact λr=>by rw[jW r];rfl
 | cons d ds ih=>exact λr=>q9 (jG r) λ_ _ _ _ z _ r=>by rw[z];exact congrArg (· + 1) (ih r)
theorem zlU{X:Cx}{Y:AHeap}{s:Shared}{A:Around}{x y:AV}{v1 v2:Value}{t:Bool}{Q:Bool->Shared->Prop}{E:Value->Shared->Prop}(a:At X Y s)(hu:A.units+2000<cLine)(rx:RepV Y s.heap x v1)(ry:RepV Y s.heap y v2)
  (hx:∃i r,x = .tup (.int i::r))(hy:∃i r,y = .tup (.int i::r))(hlt:zdY (vis Y) x y t)(hQ:Q t s):wpAny X.M A (keyLt' (tuples' true) v1 v2) Q E s:=by
 refine zv hlt λda db ra rb oa ob el=>?_;obtain⟨⟨as1,q1⟩,c1⟩:=ra.reads a rx;obtain⟨⟨as2,q2⟩,c2⟩:=rb.reads a ry;refine z9 hx λi r e3_2=>?_;subst e3_2;refine z9 hy λj r' e4_2=>?_;subst e4_2;refine zb (Rd.wH ra) λds e5_1 rda=>?_;subst e5_1;refine zb (Rd.wH rb) λes e6_1 rdb=>?_;subst e6_1;cases q1 with
 | tuple ho1 hc1 hd1 hr1=>
  cases q2 with
  | tuple ho2 hc2 hd2 hr2=>
   have c3:=oa;simp only[PyData.canLay0] at c1 c2;simp only[PyData.depth] at c3;simp only[zdm,zoW,zeo] at el;refine kat_lt ho1 hd1 ho2 hd2 (zmO ds es hr1 hr2 c1 c2 (zAU hu c3) (by rw[<-zcD hr1,<-zcD hr2];simp) (λ_ _ u v hu hv=>?_) el hQ);refine zm (RdL.wF rda) λd1 ds1 z1 g1 g2=>?_;subst z1;refine zm (RdL.wF rdb) λd2 ds2 z2 g3 g4=>?_;subst z2;exact .inl (zaA _ _ ((Hy hu).symm.trans (Rd.wD g1)) ((Hy hv).symm.trans (Rd.wD g3)))
theorem zln{X:Cx}{Yv Y:AHeap}{s:Shared}{A:Around}{x y:AV}{v1 v2:Value}{t:Bool}{Q:Bool->Shared->Prop}{E:Value->Shared->Prop}{h:Heap}(rx:RepV Y h x v1)(ry:RepV Y h y v2)(hx:∃i,x = .int i)(hy:∃i,y = .int i)(hlt:zdY Yv x y t)(hQ:Q t s):wpAny X.M A (keyLt' oneType' v1 v2) Q E s:=by
 obtain⟨i,ei⟩:=hx;obtain⟨j,ej⟩:=hy;subst ei ej;refine zv hlt λda db ra rb oa ob el=>?_;obtain rfl:=Rd.wD ra;obtain rfl:=Rd.wD rb;simp only[zdm,zoW,zeo,Option.some.injEq] at el;rw[<-el] at hQ;obtain⟨_,rfl⟩:=RepV.wD rx;obtain⟨_,rfl⟩:=RepV.wD ry;rw[keyLt'_oneType];exact oneLt_int hQ
open Classical in
theorem zfZ{X:Cx}{Y:AHeap}{s:Shared}(a:At X Y s){xs:List AV}{key:AV->AV}{V:AV->Nat}(hlt:∀x∈xs,∀y∈xs,zdY (vis Y) (key x) (key y) (decide (V x<V y))):∃VV:Value->Nat,∀x∈xs,∀v,RepV Y s.heap (key x) v->VV v=V x:=by
 have uni:∀x∈xs,∀y∈xs,∀v,RepV Y s.heap (key x) v->RepV Y s.heap (key y) v->V x=V y:=λx hx y hy v rx ry=>by
  refine zv (hlt x hx y hy) λa1 b1 h1 h2 k1 k2 e1=>?_;refine zv (hlt y hy x hx) λa2 b2 h3 h4 k3 k4 e2=>?_;obtain⟨⟨_,q1⟩,cl⟩:=h1.reads a rx;obtain⟨⟨_,q2⟩,_⟩:=h2.reads a ry;obtain⟨⟨_,q3⟩,_⟩:=h3.reads a ry;obtain⟨⟨_,q4⟩,_⟩:=h4.reads a rx;have d1:=PySem.SeqAt.Reads.unique _ _ _ _ _ cl q1 q2;have d2:=PySem.SeqAt.Reads.unique _ _ _ _ _ cl q1 q3;have d3:=PySem.SeqAt.Reads.unique _ _ _ _ _ cl q1 q4;subst d1;subst d2;subst d3;rw[e1] at e2;exact zx1 (decide_eq_decide.mp (Hy e2))
 refine⟨λv=>if h:∃x,x∈xs/\RepV Y s.heap (key x) v then V (choose h) else 0,λx hx v rx=>?_⟩;have h:∃x,x∈xs/\RepV Y s.heap (key x) v:=(zc x hx rx)
 simp only[dif_pos h];exact uni _ (choose_spec h).1 x hx v (choose_spec h).2 rx
theorem zhm{X:Cx}:jg X (.builtin "sorted") q6:=λd A Y s rr as vs Q E L hdn a r q=>by
 refine zb (jz q) λx0 e15_1 q=>?_;subst e15_1;refine zb (zg q) λxs hx0 q=>?_;unfold zf4 at q
 .refine zb (qt r) λv e17_1 rv=>?_;subst e17_1;refine zh q λV hkd hlt q=>?_;refine zv (a.isList (ja hx0) rv) λp vs e19_2 hp hl rs hm=>?_;subst e19_2;have hlen:=rs.length;have room:=L.room;obtain⟨VV,hρV⟩:=zfZ (key:=λx=>x) a hlt;refine zM (Calls.call_function_entry kind_sorted plain_sorted entry_sorted (args_sorted1 _) ?_);unfold Builtin.«sorted»;refine G8 (m:=checkCount "sorted" 1 1 _) (G9 ?_);refine G8 (collect_list hl ?_ (by rw[Hc];exact zhw hm hlen));refine G8 (Hg ?_ (by rw[Hc];exact zhw hm hlen));have hsz:((s.heap.push (Hw "list" #[] 0)).update s.heap.objs.size (Obj.mapSeq (·++vs.toArray))).objs.size=s.heap.objs.size+1:=by
   rw[Heap.size_update,size_push']
  obtain⟨h1,hh1⟩:∃x,x=((s.heap.push (Hw "list" #[] 0)).update s.heap.objs.size (Obj.mapSeq (·++vs.toArray))).push (Hw "list" vs.toArray 0):=⟨_,rfl⟩
  have hoL:h1.get? (s.heap.objs.size+1)=some (Hw "list" vs.toArray 0):=by
   rw[hh1,<-hsz];exact Heap.get?_push_size _ rfl
  have keep:∀b o,s.heap.get? b=some o->h1.get? b=some o:=λb o q=>by
   have hlt:b<s.heap.objs.size:=Heap.lt_size q;rw[hh1,Heap.get?_push_ne _ _ _ (by rw[hsz];exact fAO (fCX hlt)),Heap.get?_update_ne _ _ _ _ (fAO hlt),Heap.get?_push_ne _ _ _ (fAO hlt)];exact q
  show wpAny _ _ _ _ _ { s with heap:=((s.heap.push (Hw "list" #[] 0)).update s.heap.objs.size (Obj.mapSeq (·++vs.toArray))).push (Hw "list" vs.toArray 0) };rw[hsz,<-hh1];have keep':∀h':Heap,(∀b o,b≠s.heap.objs.size+1->h1.get? b=some o->h'.get? b=some o)->∀b o,s.heap.get? b=some o->h'.get? b=some o:=λh' hk b o e=>by
   have hlt:b<s.heap.objs.size:=ltA e;exact hk b o (fAO (fCX hlt)) (keep b o e)
  refine G8 (Hb (Hf slot_list_sort (zc _ hoL rfl) entry_list_sort ?body (args_list_sort _)))
  case body=>
   refine zkx (s:={ s with heap:=h1 }) VV hoL (zwz hm hlen) (by rw[<-hlen];exact hm) (λh' hk' h2=>?_) λout c h3 hperm hsrt ho3 hk3=>?_
   .have kp:=keep' h' hk';have kv:KeepV Y s.heap Y h':=.ext kp;have a':At X Y { s with heap:=h' }:=a.grown s.toks kp;have rs':=rs.mono kv;have mz:∀z,z∈(vs.toArray.zip vs.toArray).toList->z.1∈vs:=λz hz=>by
     have:z∈vs.zip vs:=by simpa using hz
     exact(fCH this).1
    rcases hkd with hkd|hki
    case inr=>
     refine zc oneType' (λQ' hq=>?_) (λp' q' hp' hq' Q' E' hQ=>?_)
     .refine kas_kind (s:={ s with heap:=h' }) (vs:=vs) (T:=.type "int") (ztC h2) (λv hv=>?_) (by decide) (by decide) hq;refine zb (rs'.mem v hv) λx hx rx=>?_;obtain⟨i,rfl⟩:=hki x hx;obtain⟨_,rfl⟩:=RepV.wD rx;exact .now
     .refine zb (rs.mem p'.1 (mz p' hp')) λx hx rx=>?_;refine zb (rs.mem q'.1 (mz q' hq')) λy hy ry=>?_;exact zln rx ry (hki x hx) (hki y hy) (hlt x hx y hy) (by rw[<-hρV x hx _ rx,<-hρV y hy _ ry];exact hQ)
    have hT3:∀x∈xs,∃y r,x = .tup (y::r)/\∀v,RepV Y h' y v->Looks X.M h' (typeOf v) (.type "int"):=λx hx=>by
     refine z9 (hkd x hx) λi r e36_2=>?_;subst e36_2;refine zaA _ r rfl (λv rv=>?_);obtain⟨_,rfl⟩:=RepV.wD rv;exact .now
    refine zh (zel (M:=X.M) rs' hT3) λfs f1 f2 f3=>?_;refine zc (tuples' true) (λQ' hq=>?_) (λp' q' hp' hq' Q' E' hQ=>?_)
    .refine kat_kind (s:={ s with heap:=h' }) f1 (zzQ h2 f2) f3 (by decide) ?_;exact hq
    .refine zb (rs.mem p'.1 (mz p' hp')) λx hx rx=>?_;refine zb (rs.mem q'.1 (mz q' hq')) λy hy ry=>?_;have hQ:Q' (decide (V x<V y)) { s with heap:=h' }:=by rw[<-hρV x hx _ rx,<-hρV y hy _ ry];exact hQ
     have rx':=rx.mono kv;have ry':=ry.mono kv;exact zlU a' (by rw[Around.in1_units,Around.in1_units];exact zFs room) rx' ry' (hkd x hx) (hkd y hy) (hlt x hx y hy) hQ
   .have kp:=keep' h3 hk3;have kv:KeepV Y s.heap Y h3:=.ext kp;refine zb (rs.perm hperm) λys hy1 hy2=>?_;have hys:ys.Pairwise λx y=>V x<=V y:=hy2.pair (λy hy v rv=>hρV y (hy1.mem_iff.mp hy) v rv) hsrt;refine zc _ rfl (G9 (zc _ rfl (λhsz'=>?_)));exact zc4 (t:=s.toks) a kp (fBJ _) ho3 (hy2.mono kv) (by rw[hy1.length_eq];exact hm) hsz' (q ys hy1 hys)
inductive All2{α β:Type}(R:α->β->Prop):List α->List β->Prop
 | nil:All2 R [] []
 | cons {a:α} {b:β} {as:List α} {bs:List β}:R a b->All2 R as bs->All2 R (a::as) (b::bs)
theorem All2.perm{α β:Type}{R:α->β->Prop}{bs cs:List β}(p:cs.Perm bs):∀{as:List α},All2 R as bs->∃ds:List α,ds.Perm as/\All2 R ds cs:=by
 induction p with
 | nil=>intro as h;exact⟨as,.refl _,h⟩
 | cons b p ih=>
  intro as h;cases h with
  | @cons a _ as' _ h1 h2=>
   refine zb (ih h2) λds h3 h4=>?_;exact⟨a::ds,.cons a h3,.cons h1 h4⟩
 | swap b c l=>
  intro as h;cases h with
  | @cons a _ as' _ h1 h2=>
   cases h2 with
   | @cons a' _ as' _ h3 h4=>exact⟨a'::a::as',.swap ..,.cons h3 (.cons h1 h4)⟩
 | trans p q ih1 ih2=>
  intro as h;refine zb (ih2 h) λds h1 h2=>?_;refine zb (ih1 h2) λes h3 h4=>?_;exact zc es (h3.trans h1) h4
theorem All2.mem2{α β:Type}{R:α->β->Prop}:∀{as:List α} {bs:List β},All2 R as bs->∀b∈bs,∃a∈as,R a b:=by
 intro as bs h
 induction h with
 | nil=>intro b hb;cases hb
 | cons h1 h2 ih=>
  intro b hb
  rcases fJ.mp hb with e|hb
  .subst e;exact zc _ fA h1
  .refine zb (ih b hb) λa ha hr=>?_;exact zc a (fB _ ha) hr
theorem All2.pair{α β:Type}{R:α->β->Prop}{f:α->Nat}{g:β->Nat}:∀{as:List α} {bs:List β},All2 R as bs->(∀a∈as,∀b,R a b->g b=f a)->bs.Pairwise (λx y=>g x<=g y)->as.Pairwise (λx y=>f x<=f y):=by
 intro as bs h
 induction h with
 | nil=>intro _ _;exact .nil
 | cons h1 h2 ih=>
  intro he hp;cases hp with
  | cons p1 p2=>
   refine .cons (λb hb=>?_) (ih (λa ha=>he a (fB _ ha)) p2);have:∀{as bs},All2 R as bs->∀a∈as,∃b∈bs,R a b:=by
    intro as bs h
    induction h with
    | nil=>intro b hb;cases hb
    | cons h1 h2 ih=>
     intro b hb
     rcases fJ.mp hb with e|hb
     .subst e;exact zc _ fA h1
     .refine zb (ih b hb) λa ha hr=>?_;exact zc a (fB _ ha) hr
   refine zb (this h2 b hb) λc hc hr=>?_;have:=p1 c hc;rw[he _ fA _ h1,he b (fB _ hb) c hr] at this;exact this
theorem zqj{Y:AHeap}{h:Heap}{key:AV->AV}:∀{xs:List AV} {vs ks:List Value},RepVs Y h xs vs->RepVs Y h (xs.map key) ks->All2 (λx (p:Hv)=>RepV Y h x p.2/\RepV Y h (key x) p.1) xs (ks.zip vs):=by
 intro xs
 induction xs with
 | nil=>intro vs ks h1 h2;obtain rfl:=RepVs.wG h1;cases h2;exact .nil
 | cons x xs ih=>
  intro vs ks h1 h2;cases h1 with
  | cons a1 r1=>cases h2 with
   | cons a2 r2=>exact .cons ⟨a1,a2⟩ (ih r1 r2)
theorem znU{Y:AHeap}{h:Heap}{key:AV->AV}:∀{xs:List AV} {ps:List Hv},All2 (λx (p:Hv)=>RepV Y h x p.2/\RepV Y h (key x) p.1) xs ps->RepVs Y h xs (ps.map (·.2)):=by
 intro xs ps h
 induction h with
 | nil=>exact .nil
 | cons h1 h2 ih=>exact .cons h1.1 ih
def zr1(X:Cx)(kf:Value)(Yv:AHeap)(A:Around)(x k:AV):Prop:=∀Y s v,vis Y=Yv->At X Y s->RepV Y s.heap x v->wpAny X.M A (PySem.call kf [v] []) (liftQ X Y s λk' Y'=>k'=k/\Y'=Yv) (λ_ _=>False) s
theorem ztn{α:Type}{R:α->α->Prop}{l:List α}(h:l.length<2):l.Pairwise R:=by
 cases l with
 | nil=>exact .nil
 | cons x l=>cases l with
  | nil=>exact pO _ _
  | cons y l=>exact absurd h (pQ.mpr (gW (gW (fX _))))
theorem zqY{X:Cx}{A:Around}{Y:AHeap}{s:Shared}{xs:List AV}{key:AV->AV}{V:AV->Nat}{VK:Value->Nat}{kA:Array Value}{vs:List Value}{E:Value->Shared->Prop}(a:At X Y s)(hu:A.units+2000<cLine)(z:All2 (λx (p:Hv)=>RepV Y s.heap x p.2/\RepV Y s.heap (key x) p.1) xs (kA.zip vs.toArray).toList)(rk:RepVs Y s.heap (xs.map key) kA.toList)(h3:2<=kA.size)(kd:zdX (xs.map key))(hlt:∀x∈xs,∀y∈xs,zdY (vis Y) (key x) (key y) (decide (V x<V y)))(hρ:∀x∈xs,∀k,RepV Y s.heap (key x) k->VK k=V x) :
  ∃κ,qK X.prog X.w A s κ (λp=>VK p.1) (kA.zip vs.toArray)/\wpAny X.M A (keyKind' kA) (λκ' s''=>κ'=κ/\s''=s) E s:=by
 have pr:∀{p q:Hv},p∈(kA.zip vs.toArray).toList->q∈(kA.zip vs.toArray).toList->∃x y,(x∈xs/\y∈xs)/\(RepV Y s.heap (key x) p.1/\RepV Y s.heap (key y) q.1)/\VK p.1=V x/\VK q.1=V y:=λ{p q} hp hq=>by
  refine zb (z.mem2 p hp) λx hx rx=>?_;refine zb (z.mem2 q hq) λy hy ry=>?_;exact⟨x,y,⟨hx,hy⟩,⟨rx.2,ry.2⟩,hρ x hx _ rx.2,hρ y hy _ ry.2⟩
 rcases kd with kd|kd
 .have kd:∀x∈xs,∃i r,key x = .tup (.int i::r):=λx hx=>kd _ (gS hx);obtain⟨fs,f1,f2,f3⟩:=zel (M:=X.M) (T:=.type "int") rk (λx hx=>by
   refine zb (fO.mp hx) λy hy e24_2=>?_;subst e24_2;refine z9 (kd y hy) λi r e=>?_;refine zaA _ r e (λv rv=>?_);obtain⟨_,rfl⟩:=RepV.wD rv;exact .now)
  refine zc (tuples' true) (λp' q' hp' hq' Q' E' hQ=>?_) ?_
  .obtain⟨x,y,⟨hx,hy⟩,⟨rx,ry⟩,e1,e2⟩:=pr hp' hq';exact zlU a hu rx ry (kd x hx) (kd y hy) (hlt x hx y hy) (by rw[<-e1,<-e2];exact hQ)
  .have kk:=kat_kind (A:=A) (E:=E) (s:=s) (Q:=λκ s''=>κ=tuples' true/\s''=s) f1 (by rw[f2,pA];exact zyE h3) f3 (by decide) ⟨congrArg tuples' (show (Value.type "int" != Value.type "tuple")=true by decide),rfl⟩;rw[fCE] at kk;exact kk
 .have kd:∀x∈xs,∃i,key x = .int i:=λx hx=>kd _ (gS hx);refine zc oneType' (λp' q' hp' hq' Q' E' hQ=>?_) ?_
  .obtain⟨x,y,⟨hx,hy⟩,⟨rx,ry⟩,e1,e2⟩:=pr hp' hq';exact zln rx ry (kd x hx) (kd y hy) (hlt x hx y hy) (by rw[<-e1,<-e2];exact hQ)
  .have kk:=kas_kind (M:=X.M) (A:=A) (E:=E) (s:=s) (vs:=kA.toList) (T:=.type "int") (Q:=λκ s''=>κ=oneType'/\s''=s) (by rw[pA];exact ztC h3) (λv hv=>by
    refine zb (rk.mem v hv) λx hx rx=>?_;refine zb (fO.mp hx) λy hy e37_2=>?_;subst e37_2;obtain⟨i,e⟩:=kd y hy;rw[e] at rx;obtain⟨_,rfl⟩:=RepV.wD rx;exact .now) (by decide) (by decide) ⟨rfl,rfl⟩
   rw[fCE] at kk;exact kk
open Classical in
theorem zkA{X:Cx}{kf:Value}{A:Around}{Y:AHeap}{s:Shared}{r:Bool}{xs:List AV}{vs:List Value}{h1:Heap}{D:Addr}{key:AV->AV}{V:AV->Nat}{Q:zl}{E:Value->Shared->Prop}{R:Fin->Shared->Prop}(room:A.units+2000<cLine)(a:At X Y s)(rs:RepVs Y s.heap xs vs)(hm:xs.length<=1000000)(hD:D=s.heap.objs.size+1)(hs1:h1.objs.size=s.heap.objs.size+2)(hoL:h1.get? D=some (Hw "list" vs.toArray 0))(keep:∀b o,s.heap.get? b=some o->h1.get? b=some o)
  (hk:∀x∈xs,zr1 X kf (vis Y) A x (key x))(kd:zdX (xs.map key))(hlt:∀x∈xs,∀y∈xs,zdY (vis Y) (key x) (key y) (decide (V x<V y)))
  (q:∀ys:List AV,ys.Perm xs->ys.Pairwise (λx y=>V x<=V y)->mkL r ys Q (vis Y))(hR:∀v s',liftQ X Y s Q (.ref D) s'->R (.done (.ret v)) s') :
  wpAny X.M A (ksk_tree D kf false) R E { s with heap:=h1 }:=by
 have hlen:=rs.length;obtain⟨e1,ho1⟩:∃e1,(h1.update D (Obj.mapSeq λ_=>(#[]:Array Value))).get? D=some (Hw "list" #[] e1):=⟨_,Hx hoL λ_=>#[]⟩
 have sb1:=Heap.SameBut.update h1 D (Obj.mapSeq λ_=>(#[]:Array Value));have hkS:((h1.update D (Obj.mapSeq λ_=>(#[]:Array Value))).push (Hw "tuple" vs.toArray 0)).objs.size=s.heap.objs.size+3:=by rw[size_push',Heap.size_update,hs1]
 unfold ksk_tree;refine G8 (Ht hoL rfl ?_);refine G8 (Hs hoL rfl ?_ (by rw[gB,Hc];exact zhw hm hlen) (fX _));refine G8 (seqEpoch_at ho1 rfl ?_);refine G8 (wpAny_newTuple ?_ (by show vs.length<=_;rw[Hc];exact zhw hm hlen));refine G8 (Hg ?_ (fX _));refine Hb ?_;obtain⟨h0,hh0⟩:∃x,x=((h1.update D (Obj.mapSeq λ_=>(#[]:Array Value))).push (Hw "tuple" vs.toArray 0)).push (Hw "list" #[] 0):=⟨_,rfl⟩
 show wpAny X.M A (ksk_rest D kf false vs.toArray e1 (.ref ((h1.update D (Obj.mapSeq λ_=>(#[]:Array Value))).push (Hw "tuple" vs.toArray 0)).objs.size)) _ E { s with heap:=((h1.update D (Obj.mapSeq λ_=>(#[]:Array Value))).push (Hw "tuple" vs.toArray 0)).push (Hw "list" #[] 0) };obtain⟨kS,hkSe⟩:∃kS,kS=s.heap.objs.size+3:=⟨_,rfl⟩
 have hk0:h0.get? kS=some (Hw "list" #[] 0):=by rw[hh0,hkSe,<-hkS];exact Heap.get?_push_size _ rfl
 have ha0:h0.get? D=some (Hw "list" #[] e1):=by rw[hh0];exact Heap.get?_push_of_some _ (Heap.get?_push_of_some _ ho1)
 have keep0:∀b o,s.heap.get? b=some o->h0.get? b=some o:=λb o e=>by
  have hlt:b<s.heap.objs.size:=Heap.lt_size e;rw[hh0];exact Heap.get?_push_of_some _ (Heap.get?_push_of_some _ ((sb1.2 b (ztY hD hlt)).trans (keep b o e)))
 have hs0:s.heap.objs.size<=h0.objs.size:=by rw[hh0,size_push',hkS];exact zzl
 rw[hkS,<-hkSe,<-hh0];have oD:=qa a (b:=D) (zqf hD);have oK:=qa a (b:=kS) (zwx hkSe);have hDK:kS≠D:=zBu hD hkSe;have fK:kS∉X.fr:=zfE a (zwx hkSe);have fD:D∉X.fr:=zfE a (zqf hD);clear hh0 hkS ho1 sb1 hoL keep hs1;have a0:At X Y { s with heap:=h0 }:=a.grown s.toks keep0;have st0:Step (λb=>b=D\/b=kS) Y s Y { s with heap:=h0 }:=.same (λb o e _=>keep0 b o e) hs0;have noB:NoStay (λb=>b=D\/b=kS) s.heap:=by
  rintro b o (h|h) e _<;>exact absurd (Heap.lt_size e) (by (first|exact zBI hD h|exact zBJ hkSe h))
 have noD:∀{o:Obj} {b:Array Value} {e:Nat},o=Hw "list" b e->∀es n,o.data≠.dict es n:=by
  rintro o b e rfl es n h;cases h
 have noSt:∀{o:Obj} {b:Array Value} {e:Nat},o=Hw "list" b e->¬qL o:=by
  rintro o b e rfl (⟨h,_⟩|⟨h,_⟩|⟨c,vs,h,_⟩)
  .simp[Hw] at h
  .simp[Hw] at h
  .simp[Hw] at h
 unfold ksk_rest;refine G8 (Hd ?_)
 first
  | rw[List.forIn_toArray]
  | (rw[<-fBU];simp only[List.toList_toArray])
  | rw[<-fBU]
 refine G8 (ksk_fold (λj s'=>∃Y' kA e,(vis Y'=vis Y/\Y' D=none/\Y' kS=none)/\At X Y' s'/\Step (λb=>b=D\/b=kS) Y s Y' s'/\s'.heap.get? kS=some (Hw "list" kA e)/\s'.heap.get? D=some (Hw "list" #[] e1)/\RepVs Y' s'.heap ((xs.take j).map key) kA.toList) vs 0 _
  (zbd Y (#[]) 0 (zo rfl oD.1 oK.1) a0 st0 hk0 ha0 .nil) ?step ?done)
 case step=>
  intro j v s' hv hR1;refine ji hR1 λY' kA e h2_3 a' st' hk' ha' rk=>?_;obtain⟨hvis,nD,nK⟩:=h2_3;have kv':=st'.keepV a noB;simp only[fBD] at rk ⊢;have hj:j<vs.length:=(fW.mp hv).1;have hjx:j<xs.length:=zBv hlen hj;obtain⟨x,hx⟩:∃x,xs[j]? = some x:=⟨_,fU hjx⟩
  refine zb (rs.get hx) λv' hv' rx=>?_;rw[hv] at hv';obtain rfl:=Hy hv';have hxm:=fAB hx;have hz:kA.size=j:=by
   have h1:=rk.length;simp only[fC,fC4,pA] at h1;exact zCQ hlen hj h1
  refine G8 (wpAny_attempt (Ha (hk x hxm Y' s' v hvis a' (rx.mono kv')) (λk s2 hr=>?_) λ_ _ h=>h.elim));refine zv hr λav Y2 rv a2 st2 e15_5 hσ=>?_;subst e15_5;have kv2:=st2.keepV0 a';have hk2:=st2.keep kS _ hk' nK (λh=>h) (noD rfl);have ha2:=st2.keep D _ ha' nD (λh=>h) (noD rfl);have nD2:=st2.gone ha' nD;have nK2:=st2.gone hk' nK;have sb:=Heap.SameBut.update s2.heap kS (Obj.mapSeq (·.push k));obtain⟨c2,hc2⟩:∃c2,(s2.heap.update kS (Obj.mapSeq (·.push k))).get? kS=some (Hw "list" (kA.push k) c2):=⟨_,Hx hk2 (·.push k)⟩
  have kv3:KeepV Y2 s2.heap Y2 (s2.heap.update kS (Obj.mapSeq (·.push k))):=.mk' λb o ho st=>by
   by_cases hb:b=kS
   .subst hb;rw[hk2] at ho;exact absurd st (noSt (Hy ho).symm)
   .rw[sb.2 b hb];exact ho
  try dsimp only
  refine G8 (Hs hk2 rfl ?_ (by rw[Hc];exact zCM hm hlen hj hz) (fE (pC (Array.size_push ..)) (by rw[Hc];exact zCL hm hlen hj hz)));refine G9 (zgI rfl Y2 (kA.push k) c2 (zo hσ nD2 nK2) (At.aside a2 s2.toks nK2 oK.2.1 (λo ho=>by rw[hk2] at ho;exact noSt (Hy ho).symm) (λq=>absurd q fK) sb) ((st'.trans (st2.weaken λ_ h=>h.elim)).trans (Step.aside s2.toks (.inr rfl) sb)) hc2 ((sb.2 D hDK.symm).trans ha2) ?_);have ek:xs.take (j+1)=xs.take j++[x]:=by rw[fB2,hx];simp
  rw[ek,fR,gI];exact((rk.mono kv2).mono kv3).append (.cons (rv.mono kv3) .nil)
 case done=>
  intro s' hR2;refine ji hR2 λY' kA e h3_3 a' st' hk' ha' rk=>?_;obtain⟨hvis,nD,nK⟩:=h3_3;have e3:xs.take (0+vs.length)=xs:=fBC (zzX hlen);rw[e3] at rk
  try dsimp only
  refine G8 (Ht hk' rfl ?_);have hks:kA.size=vs.length:=by have h1:=rk.length;simp only[fC,pA] at h1;exact zBK hlen h1
  have kv':=st'.keepV a noB;have rs':=rs.mono kv';rw[<-hvis] at hlt q;have z:=zqj (key:=key) rs' rk;have ez:(kA.zip vs.toArray).toList=kA.toList.zip vs:=ksk_zip kA vs;rw[<-ez] at z;obtain⟨VK,hρ⟩:=zfZ a' hlt
  -- the tail: any order of the pairs that is sorted
  have tail:∀st:SortSt,(Hu st).Perm (kA.zip vs.toArray)->failedOf st=none->((Hu st).toList.Pairwise λx y=>VK x.1<=VK y.1)->
    wpAny X.M A (ksk_tail D false e1 (.ref kS) st) R E s':=by
   intro st hp hf hs;refine zb (z.perm (fAE.mp hp)) λys hy1 hy2=>?_;have hys:ys.Pairwise λx y=>V x<=V y:=hy2.pair (λy hy pp hpp=>hρ y (hy1.mem_iff.mp hy) _ hpp.2) hs;have s1:=Heap.SameBut.update s'.heap kS (Obj.mapSeq λ_=>(#[]:Array Value));have na1:(s'.heap.update kS (Obj.mapSeq λ_=>(#[]:Array Value))).get? D=some (Hw "list" #[] e1):=(s1.2 D hDK.symm).trans ha';have s2:=Heap.SameBut.update (s'.heap.update kS (Obj.mapSeq λ_=>(#[]:Array Value))) D (Obj.mapSeq λ_=>(Hu st).map (·.2));obtain⟨c2,hc2⟩:∃c2,((s'.heap.update kS (Obj.mapSeq λ_=>(#[]:Array Value))).update D (Obj.mapSeq λ_=>(Hu st).map (·.2))).get? D=some (Hw "list" ((Hu st).map (·.2)) c2):=⟨_,Hx na1 λ_=>(Hu st).map (·.2)⟩
   have hasz:((Hu st).map (·.2)).size=vs.length:=by
    have h1:(Hu st).size=(kA.zip vs.toArray).size:=hp.size_eq;rw[Array.size_zip,hks,gB] at h1;rw[Array.size_map];exact h1.trans (Nat.min_self _)
   unfold ksk_tail
   try dsimp only
   refine G8 (Hs hk' rfl ?_ (by rw[Hc];exact zBC hm hlen hks) (fX _));refine G8 (wpAny_letGo ?_);refine G8 (seqEpoch_at na1 rfl ?_);refine G8 (Hs na1 rfl ?_ (fX _) (fE (pC hasz) (by rw[Hc];exact zAl hm hlen)));rw[hf];simp only[bne_self_eq_false,gK,if_false];refine G9 (hR _ _ ?_);obtain⟨H2,hH2⟩:∃x,x=(s'.heap.update kS (Obj.mapSeq λ_=>(#[]:Array Value))).update D (Obj.mapSeq λ_=>(Hu st).map (·.2)):=⟨_,rfl⟩
   rw[<-hH2] at hc2 s2 ⊢;have same:∀b,b≠D->b≠kS->H2.get? b=s'.heap.get? b:=λb h1 h2=>(s2.2 b h1).trans (s1.2 b h2);have kv4:KeepV Y' s'.heap Y' H2:=.mk' λb o ho st=>by
    rw[same b (λe=>by rw[e,ha'] at ho;exact absurd st (noSt (Hy ho).symm)) (λe=>by rw[e,hk'] at ho;exact absurd st (noSt (Hy ho).symm))];exact ho
   have aa:=At.aside a' s'.toks nK oK.2.1 (λo ho=>by rw[hk'] at ho;exact noSt (Hy ho).symm) (λq=>absurd q fK) s1;have ab:At X Y' { s' with heap:=H2 }:=At.aside aa s'.toks nD oD.2.1 (λo ho=>by rw[na1] at ho;exact noSt (Hy ho).symm) (λq=>absurd q fD) s2;have hS2:s.heap.objs.size<=H2.objs.size:=by rw[hH2,Heap.size_update,Heap.size_update];exact st'.size
   have stE:Step E0 Y s Y' { s' with heap:=H2 }:=⟨λb o e h1 _ hd=>by
     have hlt:b<s.heap.objs.size:=Heap.lt_size e;show H2.get? b=_;rw[same b (ztY hD hlt) (zwS hkSe hlt)];exact st'.keep b o e h1 (by rintro(h|h)<;>(first|exact zwN hD hlt h|exact zwO hkSe hlt h)) hd,λb o e h1 _=>by
     have hlt:b<s.heap.objs.size:=Heap.lt_size e;obtain⟨sl,h⟩:=st'.keepD b o e h1 (by rintro(h|h)<;>(first|exact zwN hD hlt h|exact zwO hkSe hlt h));exact⟨sl,(same b (ztY hD hlt) (zwS hkSe hlt)).trans h⟩,st'.fresh,hS2,st'.frz⟩
   obtain⟨av,ao,o1,o2,o3,o4⟩:=zpY (r:=r) (D:=D) (acc:=ys) (ys:=((Hu st).map (·.2)).toList) (n:=c2) (Q:=Q) (by
      unfold zS;rw[fCE];exact hc2) (by
      have:=(znU hy2).mono kv4;rwa [<-Array.toList_map] at this) (by rw[hy1.length_eq];exact hm) ab stE nD oD.2.1 fD (zqf hD) (q ys hy1 hys)
   exact zq av _ o1 o2 o3 o4
  unfold ksk_end
  try dsimp only
  by_cases h2:vs.toArray.size<2
  .rw[if_pos h2,if_pos h2];refine G8 (G9 ?_);rw[StateT.run_pure];refine G8 (G9 ?_)
   try dsimp only
   refine tail (SortSt.mk' general' (kA.zip vs.toArray) #[] 7 none) (.refl _) rfl ?_;show (kA.zip vs.toArray).toList.Pairwise _;have:(kA.zip vs.toArray).toList.length<2:=by rw[ez,List.length_zip,pA,hks,Nat.min_self];simpa using h2
   exact ztn this
  .rw[if_neg h2,if_neg h2];have h3:2<=vs.length:=by simpa using h2
   have hzs:(kA.zip vs.toArray).size=vs.length:=by rw[Array.size_zip,hks,gB,Nat.min_self]
   obtain⟨κ,H,kk⟩:=zqY (E:=E) a' room z rk (by rw[hks];exact h3) kd hlt hρ;have hB:SB κ (kA.zip vs.toArray) (SortSt.mk' κ (kA.zip vs.toArray) #[] 7 none):=⟨.refl _,rfl,rfl⟩
   have run:=zeS (E:=E) (Q:=λ_ st'=>(Hu st').Perm (kA.zip vs.toArray)/\failedOf st'=none/\(Hu st').toList.Pairwise (λx y=>VK x.1<=VK y.1)) H hB rfl (by rw[hzs];exact h3) (by rw[hzs,<-hlen];exact hm) λst' hB' hs=>(zo hB'.perm hB'.failed (by
    have:=hB'.size;exact j7 (V:=λp=>VK p.1) (by rw[this];exact hs)))
   refine G8 (Ha kk (λκ s'' hκ=>?_) λ_ _ e=>e);obtain⟨rfl,rfl⟩:=hκ;refine G8 (Ha run (λr s'' hr=>?_) λ_ _ e=>e);obtain⟨⟨⟩,st2⟩:=r;refine zB hr λe42_0 hp2 hf2 hs2=>?_;subst e42_0;exact tail st2 hp2 hf2 hs2
open Classical in
theorem zeW{X:Cx}{kf:Value}{d:Dp}{A:Around}{Y:AHeap}{s:Shared}{x0:AV}{v0:Value}{r:Bool}{xs:List AV}{key:AV->AV}{V:AV->Nat}{Q:zl}{E:Value->Shared->Prop}(L:Live X d A)(a:At X Y s)(hx0:jf (vis Y) x0=some xs)(rv0:RepV Y s.heap x0 v0)(hkt:∀p:Addr,Builtin.«list.sort» ⟨[.ref p],[(Str.ofString "key",kf)]⟩=ksk_tree p kf false)
  (hk:∀x∈xs,zr1 X kf (vis Y) A.in1.in1 x (key x))(kd:zdX (xs.map key))(hlt:∀x∈xs,∀y∈xs,zdY (vis Y) (key x) (key y) (decide (V x<V y)))
  (q:∀ys:List AV,ys.Perm xs->ys.Pairwise (λx y=>V x<=V y)->mkL r ys Q (vis Y)) :
  wpAny X.M A (call (.builtin "sorted") [v0] [(Str.ofString "key",kf)]) (liftQ X Y s Q) E s:=by
 refine zv (a.isList (ja hx0) rv0) λp vs e13_2 hp hl rs hm=>?_;subst e13_2;have hlen:=rs.length;have room:=L.room;have u1:A.in1.in1.units=A.units+2:=by rw[Around.in1_units,Around.in1_units]
 refine call_function_entry_kw kind_sorted plain_sorted entry_sorted (ksk_s1 _ _) ?_;unfold Builtin.«sorted»;refine G8 (m:=checkCount "sorted" 1 1 _) (G9 ?_);refine G8 (collect_list hl ?_ (by rw[Hc];exact zhw hm hlen));refine G8 (Hg ?_ (by rw[Hc];exact zhw hm hlen));have hsz:((s.heap.push (Hw "list" #[] 0)).update s.heap.objs.size (Obj.mapSeq (·++vs.toArray))).objs.size=s.heap.objs.size+1:=by
  rw[Heap.size_update,size_push']
 obtain⟨h1,hh1⟩:∃x,x=((s.heap.push (Hw "list" #[] 0)).update s.heap.objs.size (Obj.mapSeq (·++vs.toArray))).push (Hw "list" vs.toArray 0):=⟨_,rfl⟩
 have hoL:h1.get? (s.heap.objs.size+1)=some (Hw "list" vs.toArray 0):=by
  rw[hh1,<-hsz];exact Heap.get?_push_size _ rfl
 have hs1:h1.objs.size=s.heap.objs.size+2:=by rw[hh1,size_push',hsz]
 have keep:∀b o,s.heap.get? b=some o->h1.get? b=some o:=λb o q=>by
  have hlt:b<s.heap.objs.size:=Heap.lt_size q;rw[hh1,Heap.get?_push_ne _ _ _ (by rw[hsz];exact fAO (fCX hlt)),Heap.get?_update_ne _ _ _ _ (fAO hlt),Heap.get?_push_ne _ _ _ (fAO hlt)];exact q
 show wpAny _ _ _ _ _ { s with heap:=((s.heap.push (Hw "list" #[] 0)).update s.heap.objs.size (Obj.mapSeq (·++vs.toArray))).push (Hw "list" vs.toArray 0) };rw[hsz,<-hh1];refine G8 (Hb (wpAny_call_entry_kw slot_list_sort (zc _ hoL rfl) entry_list_sort ?body (ksk_l1 _ _)))
 case body=>
 rw[hkt];exact zkA (by rw[u1];exact zzI room) a rs hm rfl hs1 hoL keep hk kd hlt q λv s' h=>zc _ rfl (G9 (zc _ rfl h))
section
variable{X:Cx}{K:Frag}{env:Env}{nm:List (Str×Nat)}{names:List (Str×NameKind)}
theorem zrE{r:Bool}{e:Expr}{m:AE}{g:Str}{f:Addr}{o:Obj}{fd:FuncData}{gp lp kp pos:Pos}(G:Gd X K)(E:EK env names)(hb:zmy K "sorted" (.builtin "sorted"))(hg:qp names "sorted" = true)(hf:nsIn K Hm g=some (some (.ref f)))(ho:K.lookup f=some o)(hfd:o.data = .func fd)(hgK:qp names g=true)(hs:jq e=true)(h:zi X env nm e m) :
  zi X env nm (.Call (.Name "sorted" gp) [e] [⟨some "key",.Name g lp,kp⟩] pos) (A.w4 X f r m):=λd A l Y s Q Z L a F q=>by
 obtain⟨hdn,q⟩:=kL q;show wpAny X.M A (do callWith pos (<-eval (.Name "sorted" gp) env) [] (backTo pos (starEach [e] env)) (backToKw pos (keywordEach [⟨some "key",.Name g lp,kp⟩] env))) _ _ s;refine G8 (jR G.ok E.eo a (E.glob hg).1 (by decide) (G.none hb) (G.some hb) ?_);have he:backTo pos (starEach [e] env)=(false,eval e env)::backTo pos (starEach [] env):=by rw[zK hs];rfl
 refine callWith_kw ?_ he (by rw[he];rfl);rw[he];refine Calls.spliced_cons (zam (h d A l Y s _ Z L a F q) λav v Y1 s1 rv a1 st1 q1=>?_);refine Calls.spliced_nil ?_;refine kws_cons (kj G.ok E.eo a1 (E.glob hgK).1 (E.glob hgK).2 (mg_of G.inn G.ok.g hf) (kws_nil ?_));refine zb (zg q1) λxs hx q1=>?_;unfold zeU at q1;refine zv q1 λkey V hd hk kd hlt q2=>?_;have L2:Live X ⟨d.n+1,d.hd⟩ A.in1.in1:=⟨by have:=L.depth;show A.depth<=301+(d.n+1);exact zz1 this,by have:=L.units;rw[Around.in1_units,Around.in1_units];show _<=20+8*(d.n+1);exact zzZ this,L.handled,by show d.n+1<=600;lia,L.frames⟩
 refine j4 st1 (zeW L a1 hx rv (λp=>ksk_t1 _ _) (λx hx Y2 s2 v2 hv a2 r2=>?_) (.inl λy hy=>?_) hlt q2)
 .have:=hk x hx;rw[<-hv] at this;refine Ha (this.call L2 a2 (.cons r2 .nil)) (λk s3 hr=>?_) λe s3 hr=>?_
  .refine zv hr λav Y3 h1 h2 h3 h4 h5=>?_;exact jw av Y3 h1 h2 h3 h4 (h5.trans hv)
  .refine jU hr λc Y3 x g _ _ _ _ _ hF=>?_;exact hF
 .refine zb (fO.mp hy) λx hx e48_2=>?_;subst e48_2;exact kd x hx
theorem znF{r:Bool}{e:Expr}{m:AE}{gp lp kp pos:Pos}(G:Gd X K)(E:EK env names)(hb:zmy K "sorted" (.builtin "sorted"))(hbL:zmy K "len" (.builtin "len"))(hg:qp names "sorted" = true)(hgL:qp names "len" = true)(hs:jq e=true)(h:zi X env nm e m) :
  zi X env nm (.Call (.Name "sorted" gp) [e] [⟨some "key",.Name "len" lp,kp⟩] pos) (A.w6 r m):=λd A l Y s Q Z L a F q=>by
 obtain⟨hdn,q⟩:=kL q;show wpAny X.M A (do callWith pos (<-eval (.Name "sorted" gp) env) [] (backTo pos (starEach [e] env)) (backToKw pos (keywordEach [⟨some "key",.Name "len" lp,kp⟩] env))) _ _ s;refine G8 (jR G.ok E.eo a (E.glob hg).1 (by decide) (G.none hb) (G.some hb) ?_);have he:backTo pos (starEach [e] env)=(false,eval e env)::backTo pos (starEach [] env):=by rw[zK hs];rfl
 refine callWith_kw ?_ he (by rw[he];rfl);rw[he];refine Calls.spliced_cons (zam (h d A l Y s _ Z L a F q) λav v Y1 s1 rv a1 st1 q1=>?_);refine Calls.spliced_nil ?_;refine kws_cons (jR G.ok E.eo a1 (E.glob hgL).1 (by decide) (G.none hbL) (G.some hbL) (kws_nil ?_));refine zb (zg q1) λxs hx q1=>?_;unfold zcL at q1;obtain⟨ht,q2⟩:=q1;refine j4 st1 (zeW (key:=λx=>.int (zkU x)) (V:=zkU) L a1 hx rv (λp=>ksk_t4 _ _) (λx hx Y2 s2 v2 hv a2 r2=>?_) (.inr λy hy=>?_) (λx hx y hy=>?_) q2)
 .obtain⟨l,rfl⟩:=ht x hx;refine zj (RepV.wH r2) λb vs e53_2 hl it rs=>?_;subst e53_2;have hlen:=rs.length;have e:(vs.toArray.size:Int)=(zkU (.tup l):Nat):=by simp[zkU,hlen]
  refine len_tuple it (by simp;exact ztT hl hlen) ?_;rw[e];exact kU a2 (.int _ _) ⟨rfl,hv⟩
 .refine zb (fO.mp hy) λx hx e54_2=>?_;subst e54_2;exact⟨_,rfl⟩
 .refine jw _ _ (.int _) (.int _) (fX _) (fX _) ?_;simp[zdm,zoW,zeo]
end
structure CT where
 K:Frag
 C:Addr
 refs:List (Nat×Nat)
 names:List (Str×NameKind)
 nm:List (Str×Nat)
 ex:List (Addr×List Addr)
noncomputable def CT.r(c:CT)(p:Pos):Bool:=c.refs.any λq=>Nat.beq q.1 p.line&&Nat.beq q.2 p.col
noncomputable def zg1(v:Option (Option Value)):Bool:=match v with
 | some none=>true
 | _=>false
noncomputable def biB(K:Frag)(names:List (Str×NameKind))(x:Str)(v:Value):Bool:=
 qp names x&&zg1 (nsIn K Hm x)&&bootBuiltins x==some v&&!(x==("__name__" : Str))
structure PrimS where
 name:Str
 val:Value
 prim:zbK
noncomputable def prims:List PrimS:=[⟨"len",.builtin "len",jm⟩,⟨"range",.type "range",qs⟩,⟨"list",.type "list",zpq⟩,⟨"tuple",.type "tuple",zbm⟩,⟨"max",.builtin "max",zpr⟩,⟨"min",.builtin "min",zki⟩,⟨"sum",.builtin "sum",zm3⟩,⟨"sorted",.builtin "sorted",q6⟩,⟨"int",.type "int",zrh⟩,⟨"abs",.builtin "abs",ztl⟩]
noncomputable def pyTs:List (Str×PyT):=[("tuple",.tuple),("str",.str),("int",.int),("bool",.bool),("list",.list),("dict",.dict)]
structure MethS where
 name:Str
 id:String
 meth:zaZ
noncomputable def meths:List MethS:=[⟨"append","list.append",zQ⟩,⟨"pop","list.pop",zq8⟩,⟨"extend","list.extend",zdP⟩,⟨"index","list.index",zj3⟩,⟨"remove","list.remove",zgU⟩]
def A.no:AE:=λ_ _ _ _ _=>False
def A.noI:AI:=λ_ _ _ _ _=>False
noncomputable def hh0:Nat:=0
noncomputable def hh1:Nat:=hh0
noncomputable def hh2:Nat:=hh1
noncomputable def hh3:Nat:=hh2
noncomputable def hh4:Nat:=hh3
noncomputable def hh5:Nat:=hh4
noncomputable def hh6:Nat:=hh5
noncomputable def hh7:Nat:=hh6
noncomputable def hh8:Nat:=hh7
noncomputable def hh9:Nat:=hh8
noncomputable def zxN:Nat:=hh9
noncomputable def zxO:Nat:=zxN
noncomputable def zxP:Nat:=zxO
noncomputable def zxQ:Nat:=zxP
noncomputable def zxR:Nat:=zxQ
noncomputable def zxS:Nat:=zxR
noncomputable def zxT:Nat:=zxS
noncomputable def zxU:Nat:=zxT
noncomputable def zxV:Nat:=zxU
noncomputable def zxW:Nat:=zxV
noncomputable def zxX:Nat:=zxW
noncomputable def zxY:Nat:=zxX
noncomputable def zxZ:Nat:=zxY
noncomputable def zx0:Nat:=zxZ
noncomputable def low{β:Type}(z:β):β:=(λ_:Nat=>z) zx0
noncomputable def ck{β:Type}(z:β)(b:Bool)(m:β):β:=match b with
 | true=>m
 | false=>low z
noncomputable def op{α β:Type}(z:β)(o:Option α)(f:α->β):β:=match o with
 | some a=>f a
 | none=>low z
abbrev Go:=Expr->AE
noncomputable def zsa(v:Option (Option Value)):Option Int:=match v with
 | some (some (.int i _))=>some i
 | _=>none
def zn7(ct:CT)(x:Str):AE:=match zek ct.names x&&!(x==("__debug__" : Str)) with
 | true=>op A.no (ct.nm.lookup x) A.loc
 | false=>ck A.no (qp ct.names x) (op A.no (zsa (nsIn ct.K Hm x)) λi=>A.k (.int i))
def zn5(c:Const):AE:=match c with
 | .int i=>A.k (.int i)
 | .str s=>op A.no (kI s) λn=>A.k (.str n)
 | .none=>A.k .none
 | .bool b=>A.k (.bool b)
 | _=>A.no
noncomputable def zpl(ops:List CmpOp)(es:List Expr):Bool:=match ops with
 | []=>false
 | op::ops=>match es with
  | []=>false
  | e::es=>match ops with
   | []=>es.isEmpty&&!behindInMarks op e
   | _::_=>zpl ops es
noncomputable def zto(go:Go)(ops:List CmpOp)(es:List Expr):List (CmpOp×AE):=match ops with
 | []=>low []
 | op::ops=>match es with
  | []=>[]
  | e::es=>(op,go e)::zto go ops es
def zum(go:Go)(r:Bool)(x:AE)(i:Expr):AE:=match i with
 | .Slice lo hi st _=>(match st with
  | none=>A.wU r x (lo.map go) (hi.map go)
  | some _=>A.no)
 | i=>ck A.no (zcz i) (A.idx x (go i))
noncomputable def zrg(ks:List (Option Expr))(vs:List Expr):Bool:=match ks with
 | []=>vs.isEmpty
 | k::ks=>match vs with
  | []=>false
  | _::vs=>k.isSome&&zrg ks vs
noncomputable def rPs(go:Go)(ks:List (Option Expr))(vs:List Expr):List (AE×AE):=match ks with
 | []=>[]
 | k::ks=>match vs with
  | []=>[]
  | v::vs=>(op A.no k go,go v)::rPs go ks vs
noncomputable def zgM(e:Option Expr):Bool:=match e with
 | some (.Constant (.str _) _ _)=>true
 | _=>false
def zn6(go:Go)(r:Bool)(ks:List (Option Expr))(vs:List Expr):AE:=
 match (match ks with|[]=>r|_::_=>ks.all zgM)&&Nat.ble ks.length 15&&zrg ks vs with
 | true=>A.dic (rPs go ks vs)
 | false=>match ks with
  | []=>ck A.no vs.isEmpty A.dT0
  | k::ks=>match vs with
   | []=>A.no
   | v::vs=>ck A.no (ks.isEmpty&&vs.isEmpty) (op A.no k λk=>A.dT1 (go k) (go v))
noncomputable def zc3(e:Expr):Option Str:=match e with
 | .Name x _=>some x
 | _=>none
noncomputable def tgN(ok:Str->Bool)(nm:List (Str×Nat))(e:Expr):Option Nat:=(zc3 e).bind λx=>if ok x then nm.lookup x else none
noncomputable def zu2(ok:Str->Bool)(nm:List (Str×Nat))(es:List Expr):Option (List Nat):=match es with
 | []=>some []
 | e::es=>(tgN ok nm e).bind λi=>(zu2 ok nm es).map λis=>i::is
noncomputable def zsB(ok:Str->Bool)(nm:List (Str×Nat))(e:Expr):Option Tgt:=match e with
 | .Tuple es _ _=>(zu2 ok nm es).map .many
 | e=>(tgN ok nm e).map .one
noncomputable def zqR:Expr->Bool
 | .Tuple ..=>true
 | _=>false
noncomputable def zjz(e:Expr):Option (Str×List Expr×List Keyword):=match e with
 | .Call f es kws _=>(zc3 f).map λx=>(x,es,kws)
 | _=>none
noncomputable def zjA(e:Expr):Option (Str×Expr):=(zjz e).bind λp=>match p.2.1 with
 | []=>none
 | a::r=>if r.isEmpty&&p.2.2.isEmpty then some (p.1,a) else none
def zla(go:Go)(ct:CT)(target iter:Expr):AI:=match zjA iter with
 | none=>A.itP (go iter)
 | some p=>match p.1==("enumerate" : Str) with
  | true=>ck A.noI (biB ct.K ct.names "enumerate" (.type "enumerate")&&jq p.2&&zqR target) (A.itE (go p.2))
  | false=>match p.1==("reversed" : Str) with
   | true=>ck A.noI (biB ct.K ct.names "reversed" (.type "reversed")&&jq p.2) (A.itR (go p.2))
   | false=>A.itP (go iter)
noncomputable def CT.inn(ct:CT)(ns:List (Str×NameKind)):CT:=⟨ct.K,ct.C,ct.refs,zlJ ct.names ns,jb ct.nm (kC ct.nm) ns,ct.ex⟩
noncomputable def zr9(ifs:List Expr):Bool:=Nat.ble ifs.length 1
noncomputable def zuj(go:Go)(ifs:List Expr):Option AE:=match ifs with
 | []=>none
 | e::_=>some (go e)
noncomputable def zsK(ct:CT)(g:Comprehension)(scope:Scope):Bool:=g.is_async==0&&zlc ct.names ct.nm (kC ct.nm) scope.names&&scope.kind==.function&&zeF g.iter&&zr9 g.ifs
def zn4(go:CT->Go)(ct:CT)(r:Bool)(elt:Expr)(gens:List Comprehension)(scope:Scope):AE:=match gens with
 | []=>A.no
 | g::gs=>ck A.no (gs.isEmpty&&zsK ct g scope) (op A.no (zsB (λx=>(ct.inn scope.names).names.lookup x==some .local) (ct.inn scope.names).nm g.target) λt=>
   A.lc r (zla (go ct) ct g.target g.iter) t (zc1 scope.names) (zuj (go (ct.inn scope.names)) g.ifs) (go (ct.inn scope.names) elt))
noncomputable def zeN(v:Option (Option Value)):Option Addr:=match v with
 | some (some (.ref f))=>some f
 | _=>none
def zuk(go:Go)(ct:CT)(es:List Expr):AE:=match es with
 | []=>A.no
 | e::es=>match es with
  | []=>A.no
  | c::es=>ck A.no (biB ct.K ct.names "isinstance" (.builtin "isinstance")&&jq e&&es.isEmpty) (op A.no (zc3 c) λT=>match pyTs.lookup T with
   | some t=>ck A.no (biB ct.K ct.names T (.type t.name)) (A.isa t (go e))
   | none=>A.no)
def zxJ(X:Cx)(K:Frag)(C:Addr)(ms:List AE):AE:=
 ck A.no (keepIn K (.ref C)&&makesIn K C) (op A.no (zeN (findIn K (.ref C) "__init__")) λfI=>ck A.no (typeIn K (.ref fI)==some (.type "function")) (A.new X C fI ms))
def zjm(X:Cx)(go:Go)(ct:CT)(g:Str)(es:List Expr)(pos:Pos):AE:=match g==("isinstance" : Str) with
 | true=>zuk go ct es
 | false=>ck A.no (es.all jq) (match prims.find? (λp=>p.name==g) with
  | some p=>ck A.no (biB ct.K ct.names g p.val) (A.prim p.prim (ct.r pos) (es.map go))
  | none=>ck A.no (qp ct.names g) (op A.no (zeN (nsIn ct.K Hm g)) λf=>match (zgC ct.K f).isSome with
   | true=>A.wE X f (es.map go)
   | false=>zxJ X ct.K f (es.map go)))
def zn9(X:Cx)(go:Go)(ct:CT)(g:Str)(es:List Expr)(kw:Keyword)(pos:Pos):AE:=match es with
 | []=>A.no
 | e::es=>ck A.no (g==("sorted" : Str)&&kw.arg==some ("key" : Str)&&biB ct.K ct.names "sorted" (.builtin "sorted")&&jq e&&es.isEmpty) (op A.no (zc3 kw.value) λk=>match k==("len" : Str) with
  | true=>ck A.no (biB ct.K ct.names "len" (.builtin "len")) (A.w6 (ct.r pos) (go e))
  | false=>ck A.no (qp ct.names k) (op A.no (zeN (nsIn ct.K Hm k)) λf=>ck A.no (zgC ct.K f).isSome (A.w4 X f (ct.r pos) (go e))))
def zr7(X:Cx)(go:Go)(ct:CT)(o:Expr)(name:Str)(apos:Pos)(es:List Expr)(pos:Pos):AE:=
 ck A.no (zc8 o&&apos.endLine==pos.line&&decide (es.length<30)&&es.all jq) (match meths.find? (λm=>m.name==name) with
  | some m=>A.meth m.meth (go o) (es.map go)
  | none=>ck A.no (plainGet ct.K ct.C name) (op A.no (zeN (findIn ct.K (.ref ct.C) name)) λf=>ck A.no (PySem.W.isFn ct.K (.ref f)&&(zgC ct.K f).isSome) (A.wO X ct.C (kI name) f (go o) (es.map go))))
def zr5(go:Go)(ct:CT)(o:Expr)(name:Str):AE:=
 ck A.no (zc8 o&&plainGet ct.K ct.C name&&hasDictIn ct.K ct.C&&zg1 (findIn ct.K (.ref ct.C) name)) (op A.no (kI name) λn=>A.wR ct.C n (go o))
def zr6(X:Cx)(go:Go)(ct:CT)(f:Expr)(es:List Expr)(kws:List Keyword)(pos:Pos):AE:=match f with
 | .Name g _=>(match kws with
  | []=>zjm X go ct g es pos
  | kw::r=>ck A.no r.isEmpty (zn9 X go ct g es kw pos))
 | .Attribute o name apos=>ck A.no kws.isEmpty (zr7 X go ct o name apos es pos)
 | _=>A.no
def cE(X:Cx)(n:Nat)(ct:CT)(e:Expr):AE:=match n with
 | 0=>A.no
 | n+1=>match e with
  | .Name x _=>zn7 ct x
  | .Constant c _ _=>zn5 c
  | .BinOp a o b pos=>A.bin (ct.r pos) o (cE X n ct a) (cE X n ct b)
  | .UnaryOp o a _=>(match o with
   | .USub=>A.neg (cE X n ct a)
   | .Not=>A.wT (cE X n ct a)
   | _=>A.no)
  | .BoolOp o es _=>(match o with
   | .And=>za2 (es.map (cE X n ct))
   | .Or=>orL (es.map (cE X n ct)))
  | .Compare a ops es _=>ck A.no (zpl ops es) (A.cmp (cE X n ct a) (zto (cE X n ct) ops es))
  | .Tuple es _ _=>ck A.no (es.all jq) (A.tup (es.map (cE X n ct)))
  | .List es pos=>ck A.no (es.all jq) (A.lst (ct.r pos) (es.map (cE X n ct)))
  | .Subscript a i pos=>zum (cE X n ct) (ct.r pos) (cE X n ct a) i
  | .ListComp elt gens scope pos=>zn4 (cE X n) ct (ct.r pos) elt gens scope
  | .Attribute o name _=>zr5 (cE X n ct) ct o name
  | .Dict ks vs pos=>zn6 (cE X n ct) (ct.r pos) ks vs
  | .Call f es kws pos=>zr6 X (cE X n ct) ct f es kws pos
  | _=>A.no
def zul(X:Cx)(n:Nat)(ct:CT)(t v:Expr):AS:=match t with
 | .Name x _=>ck A.wJ (zek ct.names x) (op A.wJ (ct.nm.lookup x) λi=>(match v with
   | .ListComp elt gens scope pos=>A.set i (zn4 (cE X n) ct (ct.r pos) elt gens scope)
   | v=>ck A.wJ (zdR v) (A.set i (cE X n ct v))))
 | .Attribute o name _=>ck A.wJ (findIn ct.K (.ref ct.C) "__setattr__"==some (some (.builtin "object.__setattr__"))&&plainOver ct.K ct.C&&zg1 (takerIn ct.K ct.C name)&&hasDictIn ct.K ct.C)
   (op A.wJ (kI name) λk=>A.wY ct.C k (cE X n ct o) (cE X n ct v))
 | .Subscript o i _=>A.wS (cE X n ct v) (cE X n ct o) (cE X n ct i)
 | _=>A.wJ
noncomputable def zlG(e:Expr):Option Str:=(zjz e).bind λp=>match p.2.1 with
 | []=>none
 | a::r=>if zgM (some a)&&r.isEmpty&&p.2.2.isEmpty then some p.1 else none
noncomputable def zlH(e c:Option Expr):Option Str:=match c with
 | none=>e.bind zlG
 | some _=>none
noncomputable def zoz(hs:List ExceptHandler):Option (Str×Option Str×Stmt×List Stmt):=match hs with
 | []=>none
 | .ExceptHandler t name body _::r=>if r.isEmpty then t.bind λt=>(zc3 t).bind λT=>(match body with
  | []=>none
  | b0::bs=>some (T,name,b0,bs)) else none
def zsA(ct:CT)(x:Str):AS:=ck A.wJ (qp ct.names x) (op A.wJ (zeN (nsIn ct.K Hm x)) λC=>ck A.wJ (ct.ex.lookup C).isSome (A.wX C))
noncomputable def zxG(ct:CT)(name:Option Str):Option (Option Nat):=match name with
 | none=>some none
 | some _=>none
noncomputable def zsO(ct:CT)(C':Addr):List Addr:=(ct.ex.filter λp=>(Value.ref p.1::(p.2.map Value.ref++veB)).contains (.ref C')).map (·.1)
def zxK(ct:CT)(T:Str)(name:Option Str)(x y:AS):AS:=ck A.wJ (qp ct.names T) (op A.wJ (zeN (nsIn ct.K Hm T)) λC'=>ck A.wJ (ct.ex.lookup C').isSome (op A.wJ (zxG ct name) λi=>A.vH x (zsO ct C') i y))
def rSs(f:Stmt->AS)(ss:List Stmt):AS:=ss.foldr (λs r=>A.cons (f s) r) (low A.nil)
def cS(X:Cx)(n:Nat)(ct:CT)(s:Stmt):AS:=match n with
 | 0=>A.wJ
 | n+1=>match s with
  | .Return v _=>(match v with
   | none=>A.vG
   | some e=>A.ret (cE X n ct e))
  | .Assign ts v _=>(match ts with
   | []=>A.wJ
   | t::r=>ck A.wJ r.isEmpty (zul X n ct t v))
  | .Expr e _=>ck A.wJ (zdR e) (A.ex (cE X n ct e))
  | .If t a b _=>A.if_ (cE X n ct t) (rSs (cS X n ct) a) (rSs (cS X n ct) b)
  | .While t a b _=>ck A.wJ b.isEmpty (A.w2 (cE X n ct t) (rSs (cS X n ct) a))
  | .For tg it a b _=>ck A.wJ (b.isEmpty&&zeF it) (op A.wJ (zsB (zek ct.names) ct.nm tg) λt=>A.fr (zla (cE X n ct) ct tg it) t (rSs (cS X n ct) a))
  | .Raise e c _=>op A.wJ (zlH e c) (zsA ct)
  | .Try body hs orelse fin _=>op A.wJ (zoz hs) λq=>ck A.wJ (orelse.isEmpty&&fin.isEmpty) (zxK ct q.1 q.2.1 (rSs (cS X n ct) body) (rSs (cS X n ct) (q.2.2.1::q.2.2.2)))
  | _=>A.wJ
noncomputable def cF(X:Cx)(K:Frag)(C:Addr)(ex:List (Addr×List Addr))(f:Addr)(refs:List (Nat×Nat))(ps:List Str)(nm:List (Str×Nat)):Option AS:=(zgC K f).bind λfd=>match fd.body with
 | .stmts body=>if fd.closure.isEmpty&&fd.globals==Hm&&fd.builtins==builtinsNs&&codeIn K fd.code fd.qualname&&zkd fd.scope.names nm ps&&fd.scope.kind==.function&&!fd.scope.isCoroutine&&!fd.scope.isGenerator then
   some (rSs (cS X 40 ⟨K,C,refs,fd.scope.names,nm,ex⟩) body) else none
 | _=>none
theorem zmC{α:Type}{c:Bool}{x:Option α}{b:α}(h:(if c then x else none)=some b):c=true/\x=some b:=by
 cases c with
 | true=>exact⟨rfl,h⟩
 | false=>cases h
theorem zU{a b:Bool}(h:(a&&b)=true):a=true/\b=true:=gA.mp h
theorem zrf{a:Bool}(h:(!a)=true):a=false:=by cases a with
 | true=>cases h
 | false=>rfl
theorem zad{α:Type}{l:List α}(h:l.isEmpty=true):l=[]:=List.isEmpty_iff.mp h
theorem zb7{α β:Type}{o:Option α}{f:α->Option β}{b:β}(h:o.bind f=some b):∃a,o=some a/\f a=some b:=pT.mp h
theorem zra{α β:Type}{o:Option α}{f:α->β}{b:β}(h:o.map f=some b):∃a,o=some a/\f a=b:=fAX.mp h
theorem zO{β:Type}{z m:β}{b:Bool}{S:β->Prop}(hz:S z)(h:b=true->S m):S (ck z b m):=by cases b with
 | true=>exact h rfl
 | false=>exact hz
theorem qj{α β:Type}{z:β}{o:Option α}{f:α->β}{S:β->Prop}(hz:S z)(h:∀a,o=some a->S (f a)):S (op z o f):=by cases o with
 | some a=>exact h a rfl
 | none=>exact hz
section
variable{X:Cx}{env:Env}{ct:CT}
theorem zc7{v:Option (Option Value)}(h:zg1 v=true):v=some none:=by
 cases v with
 | none=>exact nob h
 | some o=>cases o with
  | none=>rfl
  | some x=>exact nob h
theorem zah{v:Option (Option Value)}{f:Addr}(h:zeN v=some f):v=some (some (.ref f)):=by
 cases v with
 | none=>exact nos h
 | some o=>cases o with
  | none=>exact nos h
  | some x=>cases x with
   | ref a=>exact congrArg (λa=>some (some (Value.ref a))) (Hy h)
   | _=>exact nos h
theorem zoF{v:Option (Option Value)}{i:Int}(h:zsa v=some i):∃t,v=some (some (.int i t)):=by
 cases v with
 | none=>exact nos h
 | some o=>cases o with
  | none=>exact nos h
  | some x=>cases x with
   | int a t=>exact⟨t,congrArg (λa=>some (some (Value.int a t))) (Hy h)⟩
   | _=>exact nos h
theorem zac{e:Expr}{x:Str}(h:zc3 e=some x):∃p,e = .Name x p:=by
 cases e with
 | Name y p=>exact⟨p,congrArg (λa=>Expr.Name a p) (Hy h)⟩
 | _=>exact nos h
theorem zbM{K:Frag}{names:List (Str×NameKind)}{x:Str}{v:Value}(h:biB K names x v=true):qp names x=true/\zmy K x v:=by
 obtain⟨h,h4⟩:=zU h;obtain⟨h,h3⟩:=zU h;obtain⟨h1,h2⟩:=zU h;refine⟨h1,zc7 h2,beq_iff_eq.mp h3,λe=>?_⟩;rw[e] at h4;exact absurd h4 (by decide)
def zrZ(X:Cx)(env:Env)(nm:List (Str×Nat))(e:Expr)(m:AE):Prop:=zi X env nm e m/\qS X env nm e m
def zbz(X:Cx)(env:Env)(nm:List (Str×Nat))(go:Go):Prop:=∀e,zrZ X env nm e (go e)
variable{nm:List (Str×Nat)}{go:Go}
theorem noE{e:Expr}:zi X env nm e A.no:=λ_ _ _ _ _ _ _ _ _ _ q=>q.elim
theorem noB{e:Expr}:qS X env nm e A.no:=λ_ _ _ _ _ _ _ _ _ _ q=>q.elim
theorem noI{t e:Expr}:za0 X env nm t e A.noI:=λ_ _ _ _ _ _ _ _ _ _ _ _ q=>q.elim
theorem kG{e:Expr}{m:AE}(he:∀whole,isTrue e env whole=(do let v <-whole;standAt e.pos;holding [v] (truthy v)))(h:zi X env nm e m):zrZ X env nm e m:=⟨h,znc h he⟩
theorem zhF(G:Gd X ct.K)(E:EK env ct.names){x:Str}{pos:Pos}:zi X env ct.nm (.Name x pos) (zn7 ct x):=by
 unfold zn7;cases hv:zek ct.names x&&!(x==("__debug__" : Str)) with
 | true=>exact qj noE λi hi=>znq E.eo hi (E.var (zU hv).1) (zrf (zU hv).2)
 | false=>
  refine zO noE λh1=>qj noE λi h2=>?_;obtain⟨t,e⟩:=zoF h2;exact λd A l Y s Q Z L a F q=>kj G.ok E.eo a (E.glob h1).1 (E.glob h1).2 (mg_of G.inn G.ok.g e) (zb3 a (.int _ _) q)
theorem zgo{c:Const}{k:Nat}{pos:Pos}:zi X env nm (.Constant c k pos) (zn5 c):=by
 cases c with
 | int i=>exact znn
 | str s=>exact qj noE λn hn=>znz (jB hn).1 (jB hn).2
 | none=>exact zkN
 | bool b=>exact zkG
 | _=>exact noE
theorem zgx(H:zbz X env nm go)(es:List Expr):SoundEBs X env nm es (es.map go):=by
 induction es with
 | nil=>exact .nil
 | cons e r ih=>exact .cons (H e).1 (H e).2 ih
theorem zdN(H:zbz X env nm go){es:List Expr}(h:es.all jq=true):SoundEs X env nm es (es.map go):=by
 induction es with
 | nil=>exact .nil
 | cons e r ih=>exact .cons (zU h).1 (H e).1 (ih (zU h).2)
theorem zpo(H:zbz X env nm go):∀{ops:List CmpOp} {es:List Expr},zpl ops es=true->SoundOps X env nm ops es (zto go ops es):=by
 intro ops
 induction ops with
 | nil=>intro es h;cases h
 | cons o ops ih=>
  intro es h;cases es with
  | nil=>cases h
  | cons e es=>
   cases ops with
   | nil=>
    obtain⟨h1,h2⟩:=zU h;have:=zad h1;subst this;exact .one (H e).1 (zrf h2)
   | cons o2 ops=>
    have:=ih h;cases es with
    | nil=>cases h
    | cons e2 es=>exact .cons (H e).1 this
theorem zlB(H:zbz X env nm go)(e:Option Expr):zgg X env nm e (e.map go):=by
 cases e with
 | none=>trivial
 | some e=>exact(H e).1
theorem zjq(H:zbz X env nm go){r:Bool}{a i:Expr}{x:AE}{pos:Pos}(hx:zi X env nm a x):zi X env nm (.Subscript a i pos) (zum go r x i):=by
 have other:zi X env nm (.Subscript a i pos) (ck A.no (zcz i) (A.idx x (go i))):=zO noE λh=>znm hx (H i).1 h;cases i with
 | Slice lo hi st p=>cases st with
  | none=>exact ziY hx (zlB H lo) (zlB H hi)
  | some _=>exact noE
 | _=>exact other
theorem zuN(H:zbz X env nm go):∀{ks:List (Option Expr)} {vs:List Expr},zrg ks vs=true->SoundPs X env nm ks vs (rPs go ks vs):=by
 intro ks
 induction ks with
 | nil=>intro vs h;have:=zad h;subst this;exact .nil
 | cons k ks ih=>
  intro vs h;cases vs with
  | nil=>cases h
  | cons v vs=>
   obtain⟨h1,h2⟩:=zU h;cases k with
   | none=>cases h1
   | some k=>exact .cons (H k).1 (H v).1 (ih h2)
theorem zhD(XO:X.Ok)(H:zbz X env nm go){r:Bool}{ks:List (Option Expr)}{vs:List Expr}{pos:Pos}:zi X env nm (.Dict ks vs pos) (zn6 go r ks vs):=by
 unfold zn6;cases hc:(match ks with|[]=>r|_::_=>ks.all zgM)&&Nat.ble ks.length 15&&zrg ks vs with
 | true=>exact znk XO (zuN H (zU hc).2) (gQ (zU (zU hc).1).2)
 | false=>
  cases ks with
  | nil=>exact zO noE λh=>by have:=zad h;subst this;exact zni XO
  | cons k ks=>cases vs with
   | nil=>exact noE
   | cons v vs=>
    refine zO noE λh=>qj noE λk' hk=>?_;have e1:=zad (zU h).1;have e2:=zad (zU h).2;subst e1 e2 hk;exact znj XO (H k').1 (H v).1
theorem zp0{ok:Str->Bool}{e:Expr}{i:Nat}(h:tgN ok nm e=some i):∃x p,e = .Name x p/\ok x=true/\nm.lookup x=some i:=by
 obtain⟨x,h1,h2⟩:=zb7 h;obtain⟨p,rfl⟩:=zac h1;obtain⟨h3,h4⟩:=zmC h2;exact⟨x,p,rfl,h3,h4⟩
theorem zd4{B:Addr->Prop}{ok:Str->Bool}(EO:EnvOk env)(hB:∀b,B b->FB env b)(hok:∀x,ok x=true->Sto B env x){e:Expr}{t:Tgt}(h:zsB ok nm e=some t):za1 B X env nm e t:=by
 have other:(tgN ok nm e).map Tgt.one=some t->za1 B X env nm e t:=λh=>by
  obtain⟨i,h1,rfl⟩:=zra h;obtain⟨x,p,rfl,h2,h3⟩:=zp0 h1;exact zkF EO h3 (hok _ h2)
 cases e with
 | Tuple es k p=>
  obtain⟨is,h1,rfl⟩:=zra h;refine ziT EO hB ?_;clear h other
  induction es generalizing is with
  | nil=>cases h1;exact .nil
  | cons e r ih=>
   obtain⟨i,h2,h3⟩:=zb7 h1;obtain⟨is',h4,rfl⟩:=zra h3;obtain⟨x,p,rfl,h5,h6⟩:=zp0 h2;exact .cons h6 (hok _ h5) (ih _ h4)
 | _=>exact other h
theorem zfy{e:Expr}{p:Str×List Expr×List Keyword}(h:zjz e=some p):∃fp pos,e = .Call (.Name p.1 fp) p.2.1 p.2.2 pos:=by
 cases e with
 | Call f es kws pos=>
  refine zb (zra h) λy h1 h2=>?_;refine z8 (zac h1) λnp e1=>?_;exact⟨np,pos,by rw[<-h2,e1]⟩
 | _=>exact nos h
theorem zmf{e:Expr}{q:Str×Expr}(h:zjA e=some q):∃fp pos,e = .Call (.Name q.1 fp) [q.2] [] pos:=by
 refine zb (zb7 h) λp h1 h2=>z9 (zfy h1) λnp pos e1=>?_;obtain⟨x,es,kws⟩:=p;cases es with
 | nil=>exact nos h2
 | cons b r=>
  refine jT (zmC h2) λh3 h4=>?_;refine jT (zU h3) λh3 h6=>?_;exact⟨np,pos,by rw[e1,zad h3,zad h6,<-Hy h4]⟩
theorem zdc(G:Gd X ct.K)(E:EK env ct.names)(H:zbz X env ct.nm go){target iter:Expr}:za0 X env ct.nm target iter (zla go ct target iter):=by
 unfold zla;cases hc:zjA iter with
 | none=>exact zcM (H iter).1
 | some q=>
  refine z9 (zmf hc) λfp pos e1=>?_;subst e1;show za0 X env ct.nm target _ (match q.1==("enumerate" : Str) with
   | true=>_
   | false=>match q.1==("reversed" : Str) with
    | true=>_
    | false=>_)
  cases hf:(q.1==("enumerate" : Str)) with
  | true=>
   rw[H3 hf];refine zO noI λh=>?_;obtain⟨h,h5⟩:=zU h;obtain⟨h1,h4⟩:=zU h;obtain⟨b1,b2⟩:=zbM h1;cases target with
   | Tuple elts x1 tp=>exact ziS G.ok E.eo (E.glob b1).1 (G.none b2) (G.some b2) h4 (H q.2).1
   | _=>exact nob h5
  | false=>
   cases hf:(q.1==("reversed" : Str)) with
   | true=>
    rw[H3 hf];refine zO noI λh=>?_;obtain⟨h1,h4⟩:=zU h;obtain⟨b1,b2⟩:=zbM h1;exact zkE G.ok E.eo (E.glob b1).1 (G.none b2) (G.some b2) h4 (H q.2).1
   | false=>exact zcM (H _).1
theorem zjn(H:zbz X env nm go){ifs:List Expr}(h:zr9 ifs=true):zgf X env nm ifs (zuj go ifs):=by
 cases ifs with
 | nil=>trivial
 | cons e r=>cases r with
  | nil=>exact(H e).2
  | cons e2 r=>cases h
def zhy(K:Frag)(ex:List (Addr×List Addr)):Prop:=∀p∈ex,ExcIs K p.1 p.2
def zr0(X:Cx)(go:CT->Go)(K:Frag)(ex:List (Addr×List Addr)):Prop:=∀ct env,ct.K=K->ct.ex=ex->EK env ct.names->zbz X env ct.nm (go ct)
theorem zdb{go:CT->Go}(G:Gd X ct.K)(E:EK env ct.names)(H:zr0 X go ct.K ct.ex){r:Bool}{elt:Expr}{gens:List Comprehension}{scope:Scope}{S:AE->Prop}(hz:S A.no)
  (h:∀target iter ifs k t c e mi,gens=[⟨target,iter,ifs,0⟩]->SoundLC X env ct.nm (kC ct.nm) elt target iter ifs scope (ct.inn scope.names).nm k t c e mi->S (A.lc r mi t k c e)):S (zn4 go ct r elt gens scope):=by
 cases gens with
 | nil=>exact hz
 | cons g gs=>
  refine zO hz λh1=>qj hz λt i2=>?_;obtain⟨hgs,h2⟩:=zU h1;obtain⟨h3,hifs⟩:=zU h2;obtain⟨h4,hns⟩:=zU h3;obtain⟨h5,hk⟩:=zU h4;obtain⟨ha,hcb⟩:=zU h5;clear h1 h2 h3 h4 h5;have hgs:=zad hgs;subst hgs;obtain⟨tg,it,ifs,asy⟩:=g;have hasy:asy=0:=H3 ha;subst hasy;have hkf:scope.kind = .function:=H3 hk;have E':=λC=>E.comp hcb hkf C;have H':=λC=>H (ct.inn scope.names) _ rfl rfl (E' C);refine h tg it ifs _ t _ _ _ rfl ⟨hns,by rw[E.nm];exact zfz hcb,hkf,zdc G E (H ct env rfl rfl E),λC=>?_,λC=>zjn (H' C) hifs,λC=>(H' C _).1⟩;exact zd4 (E' C).eo (λb hb=>.inl hb) (λx hx=>Or.inl ⟨(E' C).loc hx,λb hb=>hb⟩) i2
theorem zen{α β:Type}[BEq α][LawfulBEq α]{l:List (α×β)}{a:α}{b:β}(h:l.lookup a=some b):(a,b)∈l:=by
 induction l with
 | nil=>cases h
 | cons p r ih=>
  rw[pG] at h;split at h
  .rename_i e;obtain rfl:=Hy h;rw[H3 e];exact fA
  .exact fB _ (ih h)
theorem zjo(G:Gd X ct.K)(HX:zhy ct.K ct.ex)(E:EK env ct.names)(H:zbz X env ct.nm go){es:List Expr}{gp pos:Pos}:zi X env ct.nm (.Call (.Name "isinstance" gp) es [] pos) (zuk go ct es):=by
 cases es with
 | nil=>exact noE
 | cons e es=>cases es with
  | nil=>exact noE
  | cons c es=>
   refine zO noE λh=>qj noE λT hT=>?_;obtain⟨h2,he⟩:=zU h;obtain⟨h1,hs⟩:=zU h2;clear h h2;have he:=zad he;subst he;obtain⟨tp,rfl⟩:=zac hT;obtain⟨b1,b2⟩:=zbM h1;cases hp:pyTs.lookup T with
   | some t=>
    refine zO noE λh5=>?_;obtain⟨c1,c2⟩:=zbM h5;exact zno G.ok E.eo (E.glob b1).1 (G.none b2) (G.some b2) (E.glob c1).1 (E.glob c1).2 (G.none c2) (G.some c2) hs (H e).1
   | none=>exact noE
def PrimS.Ok(X:Cx)(p:PrimS):Prop:=jg X p.val p.prim/\((∃id,p.val = .builtin id)\/∃T,p.val = .type T)
theorem zpu{p:PrimS}(h:p∈prims):p.Ok X:=(fM.mpr ⟨⟨znp,.inl ⟨_,rfl⟩⟩,fM.mpr ⟨⟨ziX,.inr ⟨_,rfl⟩⟩,fM.mpr ⟨⟨zkL,.inr ⟨_,rfl⟩⟩,fM.mpr ⟨⟨ziZ,.inr ⟨_,rfl⟩⟩,fM.mpr ⟨⟨zns,.inl ⟨_,rfl⟩⟩,fM.mpr ⟨⟨znt,.inl ⟨_,rfl⟩⟩,fM.mpr ⟨⟨znA,.inl ⟨_,rfl⟩⟩,fM.mpr ⟨⟨zhm,.inl ⟨_,rfl⟩⟩,fM.mpr ⟨⟨zkK,.inr ⟨_,rfl⟩⟩,fM.mpr ⟨⟨zne,.inl ⟨_,rfl⟩⟩,λ_ h=>nomatch h⟩⟩⟩⟩⟩⟩⟩⟩⟩⟩:∀p∈prims,p.Ok X) p h
def MethS.Ok(X:Cx)(p:MethS):Prop:=Slot "list" p.name p.id/\typeOf (.builtin p.id)=pure (.type "method_descriptor")/\qz X p.id p.meth
theorem zpf{p:MethS}(h:p∈meths):p.Ok X:=(fM.mpr ⟨⟨PySem.F.slot_list_append,PySem.F.type_list_append,zhj⟩,fM.mpr ⟨⟨PySem.F.slot_list_pop,PySem.F.type_list_pop,znx⟩,fM.mpr ⟨⟨PySem.F.slot_list_extend,PySem.F.type_list_extend,zhk⟩,fM.mpr ⟨⟨PySem.F.slot_list_index,PySem.F.type_list_index,ziU⟩,fM.mpr ⟨⟨PySem.F.slot_list_remove,PySem.F.type_list_remove,zhl⟩,λ_ h=>nomatch h⟩⟩⟩⟩⟩:∀p∈meths,p.Ok X) p h
theorem zoj{K:Frag}{f:Addr}(h:(zgC K f).isSome=true):∃fd o,K.lookup f=some o/\o.data = .func fd:=by
 obtain⟨fd,hfd⟩:=fAA.mp h;obtain⟨o,ho,hd⟩:=zlh hfd;exact⟨fd,o,ho,hd⟩
theorem zgn(G:Gd X ct.K)(HX:zhy ct.K ct.ex)(E:EK env ct.names)(H:zbz X env ct.nm go){g:Str}{es:List Expr}{gp pos:Pos}:zi X env ct.nm (.Call (.Name g gp) es [] pos) (zjm X go ct g es pos):=by
 unfold zjm;cases hi:(g==("isinstance" : Str)) with
 | true=>
  have:=H3 hi;subst this;exact zjo G HX E H
 | false=>
  refine zO noE λhs=>?_;have hm:=zdN H hs;cases hp:prims.find? (λp=>p.name==g) with
  | some p=>
   refine zO noE λh1=>?_;obtain⟨b1,b2⟩:=zbM h1;obtain⟨o1,o2⟩:=zpu (X:=X) (fCT hp);exact zkO G.ok E.eo (E.glob b1).1 (E.glob b1).2 (G.none b2) (G.some b2) o2 o1 hm
  | none=>
   refine zO noE λh1=>qj noE λf h3=>?_;have hg:=zah h3;cases hf:(zgC ct.K f).isSome with
   | true=>
    obtain⟨fd,o,ho,hd⟩:=zoj hf;exact zkH G.ok E.eo (E.glob h1).1 (E.glob h1).2 (mg_of G.inn G.ok.g hg) (G.inn _ _ ho) hd hm
   | false=>exact zO noE λk1=>qj noE λfI k4=>zO noE λk6=>zu3 G E hg h1 (zU k1).1 (zU k1).2 (zah k4) (H3 k6) hm
theorem zgp(G:Gd X ct.K)(E:EK env ct.names)(H:zbz X env ct.nm go){g:Str}{es:List Expr}{kw:Keyword}{gp pos:Pos}:zi X env ct.nm (.Call (.Name g gp) es [kw] pos) (zn9 X go ct g es kw pos):=by
 cases es with
 | nil=>exact noE
 | cons e es=>
  obtain⟨ka,kv,kp⟩:=kw;refine zO noE λh1=>qj noE λk hk=>?_;obtain⟨h1,he⟩:=zU h1;obtain⟨h1,hs⟩:=zU h1;obtain⟨h1,hb⟩:=zU h1;obtain⟨h1,hk'⟩:=zU h1;have:=H3 h1;subst this;have:ka=some "key":=H3 hk';subst this;have:=zad he;subst this;obtain⟨lp,hkv⟩:=zac hk;have hkv:kv = .Name k lp:=hkv;subst hkv;obtain⟨b1,b2⟩:=zbM hb;cases hl:(k==("len" : Str)) with
  | true=>
   have:=H3 hl;subst this;refine zO noE λh6=>?_;obtain⟨c1,c2⟩:=zbM h6;exact znF G E b2 c2 b1 c1 hs (H e).1
  | false=>
   refine zO noE λh6=>qj noE λf h8=>zO noE λhf=>?_;obtain⟨fd,o,ho,hd⟩:=zoj hf;exact zrE G E b2 b1 (zah h8) ho hd h6 hs (H e).1
theorem zhE(G:Gd X ct.K)(E:EK env ct.names)(H:zbz X env ct.nm go){o:Expr}{name:Str}{es:List Expr}{apos pos:Pos}:zi X env ct.nm (.Call (.Attribute o name apos) es [] pos) (zr7 X go ct o name apos es pos):=by
 refine zO noE λh1=>?_;obtain⟨h1,hs⟩:=zU h1;obtain⟨h1,hn⟩:=zU h1;obtain⟨h1,hl⟩:=zU h1;have hm:=zdN H hs;cases hp:meths.find? (λm=>m.name==name) with
 | some p=>
  obtain⟨o1,o2,o3⟩:=zpf (X:=X) (fCT hp);have hnm:=List.find?_some hp;have hnm:p.name=name:=H3 hnm;subst hnm;exact zkM o1 o2 o3 (λe=>zbL h1 _ _ _) hl hn (H o).1 hm
 | none=>
  refine zO noE λh7=>qj noE λf h9=>zO noE λhf=>?_;obtain⟨fd,ob,ho,hd⟩:=zoj (zU hf).2;exact zrC G h7 (zah h9) (zU hf).1 ho hd (λe=>zbL h1 _ _ _) hl hn (H o).1 hm
theorem zhB(G:Gd X ct.K)(H:zbz X env ct.nm go){o:Expr}{name:Str}{pos:Pos}:zi X env ct.nm (.Attribute o name pos) (zr5 go ct o name):=by
 refine zO noE λh1=>qj noE λn h6=>?_;obtain⟨h1,h3⟩:=zU h1;obtain⟨h1,h4⟩:=zU h1;obtain⟨h1,h5⟩:=zU h1;exact zty G (jB h6).1 (jB h6).2 h5 h4 (zc7 h3) (λe=>zbL h1 _ _ _) (H o).1
theorem zhC(G:Gd X ct.K)(HX:zhy ct.K ct.ex)(E:EK env ct.names)(H:zbz X env ct.nm go){f:Expr}{es:List Expr}{kws:List Keyword}{pos:Pos}:zi X env ct.nm (.Call f es kws pos) (zr6 X go ct f es kws pos):=by
 cases f with
 | Name g gp=>cases kws with
  | nil=>exact zgn G HX E H
  | cons kw r=>exact zO noE λh=>by have:=zad h;subst this;exact zgp G E H
 | Attribute o name apos=>exact zO noE λh=>by have:=zad h;subst this;exact zhE G E H
 | _=>exact noE
theorem zd3{K:Frag}{ex:List (Addr×List Addr)}(G:Gd X K)(HX:zhy K ex)(n:Nat):zr0 X (cE X n) K ex:=by
 induction n with
 | zero=>intro ct env hK hex E e;exact⟨noE,noB⟩
 | succ n ih=>
  intro ct env hK hex E e;subst hK hex;have H:=ih ct env rfl rfl E;cases e with
  | Name x p=>exact kG (λ_=>rfl) (zhF G E)
  | Constant c k p=>exact kG (λ_=>rfl) zgo
  | BinOp a o b p=>exact kG (λ_=>rfl) (zng (H a).1 (H b).1)
  | UnaryOp o a p=>cases o with
   | USub=>exact kG (λ_=>rfl) (znu (H a).1)
   | Not=>exact⟨znw (H a).1,zkD (H a).2⟩
   | _=>exact⟨noE,noB⟩
  | BoolOp o es p=>cases o with
   | And=>exact⟨znf (zgx H es),zkB (zgx H es)⟩
   | Or=>exact⟨zpT (zgx H es),znd (zgx H es)⟩
  | Compare a ops es p=>exact⟨zO noE λh=>znh (H a).1 (zpo H h),zO noB λh=>zkC (H a).1 (zpo H h)⟩
  | Tuple es k p=>exact kG (λ_=>rfl) (zO noE λh=>znC (zdN H h))
  | List es p=>exact kG (λ_=>rfl) (zO noE λh=>znr (zdN H h))
  | Subscript a i p=>exact kG (λ_=>rfl) (zjq H (H a).1)
  | ListComp elt gens scope p=>exact kG (λ_=>rfl) (zdb G E ih noE λtarget iter ifs k t c e mi hg S=>by subst hg;exact zeX E.eo rfl S)
  | Attribute o name p=>exact kG (λ_=>rfl) (zhB G H)
  | Dict ks vs p=>exact kG (λ_=>rfl) (zhD G.ok H)
  | Call f es kws p=>exact kG (λ_=>rfl) (zhC G HX E H)
  | _=>exact⟨noE,noB⟩
theorem noS{s:Stmt}:jr X env nm s A.wJ:=ziV
theorem zjp{K:Frag}(G:Gd X K)(hK:ct.K=K)(HX:zhy K ct.ex)(E:EK env ct.names){n:Nat}{t v:Expr}{pos:Pos}:jr X env ct.nm (.Assign [t] v pos) (zul X n ct t v):=by
 subst hK;have H:=zd3 G HX n ct env rfl rfl E;cases t with
 | Name x p=>
  refine zO noS λh1=>qj noS λi h3=>?_;have other:jr X env ct.nm (.Assign [.Name x p] v pos) (ck A.wJ (zdR v) (A.set i (cE X n ct v))):=zO noS λh5=>zf5 E.eo (H v).1 h3 (E.var h1) (zdC h5 _ _ _);cases v with
  | ListComp elt gens scope q=>exact zdb (S:=λm=>jr X env ct.nm (.Assign [.Name x p] (.ListComp elt gens scope q) pos) (A.set i m)) G E (zd3 G HX n) (λ_ _ _ _ _ _ _ _ _ _ q=>q.elim) λtarget iter ifs k t c e mi hg S=>by subst hg;exact zfs E.eo rfl S h3 (E.var h1)
  | _=>exact other
 | Attribute o name p=>
  refine zO noS λh1=>qj noS λk h6=>?_;obtain⟨h1,h3⟩:=zU h1;obtain⟨h1,h4⟩:=zU h1;obtain⟨h1,h5⟩:=zU h1;exact zrD G (jB h6).1 (jB h6).2 (H3 h1) h5 (zc7 h4) h3 (zkS _ _ _ _ _ _) (H v).1 (H o).1
 | Subscript o i p=>exact zkJ (H v).1 (H o).1 (H i).1 (znD _ _ _ _ _ _)
 | _=>exact noS
theorem zsl{f:Stmt->AS}(H:∀s,jr X env nm s (f s))(ss:List Stmt):j8 X env nm ss (rSs f ss):=by
 induction ss with
 | nil=>exact znv
 | cons s r ih=>exact zkI (H s) ih
theorem zrs{a:Expr}(h:zgM (some a)=true):∃t k p,a = .Constant (.str t) k p:=by
 cases a with
 | Constant c k p=>cases c with
  | str t=>exact⟨t,k,p,rfl⟩
  | _=>exact nob h
 | _=>exact nob h
theorem zkp{e:Expr}{x:Str}(h:zlG e=some x):∃np t k cp cpos,e = .Call (.Name x np) [.Constant (.str t) k cp] [] cpos:=by
 refine zb (zb7 h) λp h1 h2=>z9 (zfy h1) λnp pos e1=>?_;obtain⟨y,es,kws⟩:=p;cases es with
 | nil=>exact nos h2
 | cons a r=>
  refine jT (zmC h2) λh3 h4=>?_;refine jT (zU h3) λh3 h5=>jT (zU h3) λh3 h6=>?_;refine qD (zrs h3) λt k cp e2=>?_;exact⟨np,t,k,cp,pos,by rw[e1,e2,zad h6,zad h5,Hy h4]⟩
theorem zkq{e c:Option Expr}{x:Str}(h:zlH e c=some x):∃np t k cp cpos,e=some (.Call (.Name x np) [.Constant (.str t) k cp] [] cpos)/\c=none:=by
 cases c with
 | none=>
  refine zb (zb7 h) λe' h1 h2=>zec (zkp h2) λnp t k cp cpos h3=>?_;exact⟨np,t,k,cp,cpos,h1.trans (congrArg some h3),rfl⟩
 | some _=>exact nos h
theorem zmv{hs:List ExceptHandler}{q:Str×Option Str×Stmt×List Stmt}(h:zoz hs=some q):∃tp pos,hs=[.ExceptHandler (some (.Name q.1 tp)) q.2.1 (q.2.2.1::q.2.2.2) pos]:=by
 cases hs with
 | nil=>exact nos h
 | cons x r=>
  obtain⟨t,name,body,pos⟩:=x;refine jT (zmC h) λh1 h2=>zb (zb7 h2) λt' e1 h3=>zb (zb7 h3) λT h4 h5=>?_;cases body with
  | nil=>exact nos h5
  | cons b0 bs=>
   have e0:=Hy h5;refine z8 (zac h4) λtp e2=>?_;exact⟨tp,pos,by rw[<-e0,e1,e2,zad h1]⟩
theorem zn8{K:Frag}{ex:List (Addr×List Addr)}(G:Gd X K)(HX:zhy K ex)(n:Nat):∀ct env,ct.K=K->ct.ex=ex->EK env ct.names->X.top=some env->∀s,jr X env ct.nm s (cS X n ct s):=by
 induction n with
 | zero=>intro ct env hK hex E ht s;exact noS
 | succ n ih=>
  intro ct env hK hex E ht s;have HS:=zsl (ih ct env hK hex E ht);have H:=zd3 G HX n ct env hK hex E;subst hK hex;cases s with
  | Return v p=>cases v with
   | none=>exact zkP
   | some e=>exact zny (H e).1
  | Assign ts v p=>cases ts with
   | nil=>exact noS
   | cons t r=>exact zO noS λh=>by have:=zad h;subst this;exact zjp G rfl HX E
  | Expr e p=>exact zO noS λh=>zpR E.eo (H e).1 (zdC h _ _ _)
  | If t a b p=>exact zpS (H t).2 (HS a) (HS b)
  | While t a b p=>exact zO noS λh=>by have:=zad h;subst this;exact zi0 (H t).2 (HS a)
  | For tg it a b p=>
   refine zO noS λh=>qj noS λt ht=>?_;have:=zad (zU h).1;subst this;exact znl (zU h).2 (zdc G E H) (zd4 E.eo (λb hb=>hb) (λy hy=>E.stoF hy) ht) (HS a)
  | Raise e c p=>
   refine qj noS λx h=>?_;obtain⟨np,t,k,cp,cpos,rfl,rfl⟩:=zkq h;refine zO noS λh1=>qj noS λC h3=>zO noS λh5=>?_;obtain⟨tl,h7⟩:=fAA.mp h5;exact ziW G.ok E.eo (E.glob h1).1 (E.glob h1).2 (mg_of G.inn G.ok.g (zah h3)) (zgB G.inn (HX _ (zen h7)).b)
  | Try body hs orelse fin p=>
   refine qj noS λq hq0=>?_;obtain⟨T,name,b0,bs⟩:=q;refine z9 (zmv hq0) λtp hpos ehs=>?_;subst ehs
   .clear hq0;refine zO noS λh=>?_;have e1:=zad (zU h).1;have e2:=zad (zU h).2;subst e1 e2;refine zO noS λg1=>qj noS λC' h9=>zO noS λh11=>qj noS λi h13=>?_;obtain⟨tl',h14⟩:=fAA.mp h11;refine znB G.ok E.eo ht (E.glob g1).1 (E.glob g1).2 (mg_of G.inn G.ok.g (zah h9)) (zgB G.inn (HX _ (zen h14)).b) (λc hc=>?_) ?_ (HS body) (HS (b0::bs))
    .obtain⟨q,hq,rfl⟩:=fO.mp hc;obtain⟨q1,q2⟩:=fZ.mp hq;exact⟨q.2,zgB G.inn (HX _ q1).b,q2⟩
    .cases name with
     | none=>cases h13;trivial
     | some nn=>exact nos h13
  | _=>exact noS
theorem km{o:Option FuncData}{p:Str}(h:∀a0,o.map (λfd=>bindArgs fd ⟨[a0],[]⟩)=some (pure [(p,a0)]))(vs:List Value)(hl:vs.length=[p].length):o.map (λfd=>bindArgs fd ⟨vs,[]⟩)=some (pure ([p].zip vs)):=by
 refine js (zfk hl) λa0 v0 e179_2 h0=>?_;subst e179_2;have e:=gY.mp h0;subst e;exact h a0
theorem jZ{o:Option FuncData}{p q:Str}(h:∀a0 a1,o.map (λfd=>bindArgs fd ⟨[a0,a1],[]⟩)=some (pure [(p,a0),(q,a1)]))(vs:List Value)(hl:vs.length=[p,q].length):o.map (λfd=>bindArgs fd ⟨vs,[]⟩)=some (pure ([p,q].zip vs)):=by
 refine js (zfk hl) λa0 v0 e180_2 h0=>?_;subst e180_2;refine js (zfk h0) λa1 v1 e181_2 h1=>?_;subst e181_2;have e:=gY.mp h1;subst e;exact h a0 a1
theorem zbN{o:Option FuncData}{p q r:Str}(h:∀a0 a1 a2,o.map (λfd=>bindArgs fd ⟨[a0,a1,a2],[]⟩)=some (pure [(p,a0),(q,a1),(r,a2)]))(vs:List Value)(hl:vs.length=[p,q,r].length):o.map (λfd=>bindArgs fd ⟨vs,[]⟩)=some (pure ([p,q,r].zip vs)):=by
 refine js (zfk hl) λa0 v0 e182_2 h0=>?_;subst e182_2;refine js (zfk h0) λa1 v1 e183_2 h1=>?_;subst e183_2;refine js (zfk h1) λa2 v2 e184_2 h2=>?_;subst e184_2;have e:=gY.mp h2;subst e;exact h a0 a1 a2
theorem zcU{o:Option FuncData}{p q r t:Str}(h:∀a0 a1 a2 a3,o.map (λfd=>bindArgs fd ⟨[a0,a1,a2,a3],[]⟩)=some (pure [(p,a0),(q,a1),(r,a2),(t,a3)]))(vs:List Value)(hl:vs.length=[p,q,r,t].length):o.map (λfd=>bindArgs fd ⟨vs,[]⟩)=some (pure ([p,q,r,t].zip vs)):=by
 refine js (zfk hl) λa0 v0 e185_2 h0=>?_;subst e185_2;refine js (zfk h0) λa1 v1 e186_2 h1=>?_;subst e186_2;refine js (zfk h1) λa2 v2 e187_2 h2=>?_;subst e187_2;refine js (zfk h2) λa3 v3 e188_2 h3=>?_;subst e188_2;have e:=gY.mp h3;subst e;exact h a0 a1 a2 a3
def A.vF(Q:zl):zT:=λfl _ Y'=>Ends Q (zsj fl) Y'
def A.kEz(Z:XP):SXP:=λc _ Y'=>Z c Y'
theorem zup{K:Frag}{ex:List (Addr×List Addr)}{C f:Addr}{refs:List (Nat×Nat)}(ps:List Str)(nm:List (Str×Nat)){d:Dp}{m:Cx->AS}{args:List AV}{Q:zl}{Z:XP}{Y:AHeap}(G:Gd X K)(HX:zhy K ex)(hc:∀X,cF X K C ex f refs ps nm=some (m X))
  (hbind:∀vs,vs.length=ps.length->(zgC K f).map (λfd=>bindArgs fd ⟨vs,[]⟩)=some (pure (ps.zip vs)))(hd:d.n<600)(hlen:args.length=ps.length)
  (h:∀L,m (X.push L) ⟨d.n+1,d.hd⟩ (zgR args (kC nm)) (A.vF Q) (A.kEz Z) Y):CallOk X f d args Q Z Y:=by
 refine zb (zb7 (hc X)) λfd hfd h1=>?_;split at h1
 .rename_i body hbd
  obtain⟨h1,_⟩:=zmC h1;obtain⟨h1,i1⟩:=zU h1;obtain⟨h1,i2⟩:=zU h1;obtain⟨h1,i3⟩:=zU h1;obtain⟨h1,i4⟩:=zU h1;obtain⟨h1,i5⟩:=zU h1;obtain⟨h1,i6⟩:=zU h1;obtain⟨h1,i7⟩:=zU h1;refine zb (zlh hfd) λo ho hod=>?_;refine zmg (m:=λL=>m (X.push L)) G.ok (scope:=fd.scope) ⟨o,fd,G.inn _ _ ho,hod,rfl,hbd,List.isEmpty_iff.mp h1,H3 i7,H3 i6,codeRec_of G.inn i5,λvs hv=>by have:=hbind vs hv;rw[hfd] at this;exact Hy this⟩ (zke i4) (H3 i3) (zrf i2) (zrf i1) (λenv EO es=>?_) hd hlen h;refine zb (zb7 (hc (X.push env))) λfd' hfd' h2=>?_;rw[hfd] at hfd';obtain rfl:=Hy hfd';rw[hbd] at h2;obtain⟨_,h2⟩:=zmC h2;rw[<-Hy h2];exact zsl (zn8 (G.push _) HX 40 ⟨K,C,refs,fd.scope.names,nm,ex⟩ env rfl rfl ⟨EO,by rw[es]⟩ rfl) body
 .exact absurd (Eq.symm h1) (fP _)
end
inductive Flat:Nat->AV->Prop
 | none {k:Nat}:Flat k .none
 | int {k:Nat} (i:Int):Flat k (.int i)
 | str {k n:Nat} (h:n<zao):Flat k (.str n)
 | tup {k:Nat} {xs:List AV}:(∀x∈xs,Flat k x)->Flat (k+1) (.tup xs)
 | lst {k:Nat} {xs:List AV}:(∀x∈xs,Flat k x)->Flat (k+1) (.lst xs)
section
variable{Y:AHeap}
theorem zeM{k:Nat}{xs:List AV}(h:∀x∈xs,∃d,Rd Y x d/\d.depth<=k):∃ds,RdL Y xs ds/\PyData.depthAll ds<=k:=by
 induction xs with
 | nil=>exact⟨[],.nil,fX _⟩
 | cons x xs ih=>
  refine zb (h x fA) λd h1 h2=>?_;refine zb (ih λy hy=>h y (fB _ hy)) λds h3 h4=>?_;exact zc (d::ds) (.cons h1 h3) (by simp only[PyData.depthAll];exact Nat.max_le.mpr ⟨h2,h4⟩)
theorem Flat.rd{k:Nat}{x:AV}(h:Flat k x):∃d,Rd Y x d/\d.depth<=k:=by
 induction h with
 | none=>exact⟨_,.none,by simp only[PyData.depth];exact fX _⟩
 | int i=>exact⟨_,.int i,by simp only[PyData.depth];exact fX _⟩
 | str h=>exact⟨_,.str _,by simp only[PyData.depth];exact fX _⟩
 | tup _ ih=>
  refine zb (zeM ih) λds h1 h2=>?_;exact⟨_,.tup h1,by simp only[PyData.depth];exact gW h2⟩
 | lst _ ih=>
  refine zb (zeM ih) λds h1 h2=>?_;exact zc _ (.lst h1) (by simp only[PyData.depth];exact gW h2)
theorem zlg{xs ys:List AV}{ds es:List PyData}(hx:RdL Y xs ds)(hy:RdL Y ys es)(h:∀x∈xs,∀y∈ys,∀d e,Rd Y x d->Rd Y y e->(PyData.eqv d e=true↔x=y)):PyData.eqvAll ds es=true↔xs=ys:=by
 induction xs generalizing ys ds es with
 | nil=>
  obtain rfl:=RdL.wG hx;cases hy with
  | nil=>simp only[PyData.eqvAll]
  | cons _ _=>simp only[PyData.eqvAll,gK,false_iff];exact λe=>nomatch e
 | cons x xs ih=>
  refine zm (RdL.wF hx) λ_ _ e4_2 h1 h2=>?_;subst e4_2;cases hy with
  | nil=>simp only[PyData.eqvAll,gK,false_iff];exact λe=>nomatch e
  | cons h3 h4=>
   simp only[PyData.eqvAll,gX,List.cons.injEq];exact and_congr (h _ fA _ fA _ _ h1 h3) (ih h2 h4 λa ha b hb=>h a (fB _ ha) b (fB _ hb))
theorem znX{i j:Int}(h:AV.int i = .int j):i=j:=by injection h
theorem zsy{i j:Nat}(h:AV.str i = .str j):i=j:=by injection h
theorem zsz{i j:List AV}(h:AV.tup i = .tup j):i=j:=by injection h
theorem zsx{i j:List AV}(h:AV.lst i = .lst j):i=j:=by injection h
theorem mis{P:Prop}(h:¬P):(false=true↔P):=⟨nob,λp=>absurd p h⟩
theorem Flat.eqv{k:Nat}{x:AV}(h:Flat k x):∀{j:Nat} {y:AV},Flat j y->∀d e,Rd Y x d->Rd Y y e->(PyData.eqv d e=true↔x=y):=by
 induction h with
 | none=>
  intro j y hy d e hd he;obtain rfl:=Rd.wK hd;cases hy with
  | none=>
   obtain rfl:=Rd.wK he;exact⟨λ_=>rfl,λ_=>rfl⟩
  | int i'=>
   obtain rfl:=Rd.wD he;exact mis nofun
  | str h'=>
   obtain rfl:=Rd.wI he;exact mis nofun
  | tup hy=>
   refine zb (Rd.wH he) λ_ e6 ry=>?_;subst e6;exact mis nofun
  | lst hy=>
   refine zb (Rd.wQ he) λ_ e6 ry=>?_;subst e6;exact mis nofun
 | int i=>
  intro j y hy d e hd he;obtain rfl:=Rd.wD hd;cases hy with
  | none=>
   obtain rfl:=Rd.wK he;exact mis nofun
  | int i'=>
   obtain rfl:=Rd.wD he;exact⟨λe=>congrArg AV.int (H3 e),λe=>beq_iff_eq.mpr (znX e)⟩
  | str h'=>
   obtain rfl:=Rd.wI he;exact mis nofun
  | tup hy=>
   refine zb (Rd.wH he) λ_ e6 ry=>?_;subst e6;exact mis nofun
  | lst hy=>
   refine zb (Rd.wQ he) λ_ e6 ry=>?_;subst e6;exact mis nofun
 | str h=>
  intro j y hy d e hd he;obtain rfl:=Rd.wI hd;cases hy with
  | none=>
   obtain rfl:=Rd.wK he;exact mis nofun
  | int i'=>
   obtain rfl:=Rd.wD he;exact mis nofun
  | str h'=>
   obtain rfl:=Rd.wI he;exact⟨λe=>congrArg AV.str (ki h h' (H3 e)),λe=>by obtain rfl:=zsy e;exact BEq.rfl⟩
  | tup hy=>
   refine zb (Rd.wH he) λ_ e6 ry=>?_;subst e6;exact mis nofun
  | lst hy=>
   refine zb (Rd.wQ he) λ_ e6 ry=>?_;subst e6;exact mis nofun
 | tup _ ih=>
  intro j y hy d e hd he;refine zb (Rd.wH hd) λ_ e5 rx=>?_;subst e5;cases hy with
  | none=>
   obtain rfl:=Rd.wK he;exact mis nofun
  | int i'=>
   obtain rfl:=Rd.wD he;exact mis nofun
  | str h'=>
   obtain rfl:=Rd.wI he;exact mis nofun
  | tup hy=>
   refine zb (Rd.wH he) λ_ e6 ry=>?_;subst e6;exact Iff.trans (zlg rx ry λa ha b hb=>ih a ha (hy b hb)) ⟨congrArg AV.tup,zsz⟩
  | lst hy=>
   refine zb (Rd.wQ he) λ_ e6 ry=>?_;subst e6;exact mis nofun
 | lst _ ih=>
  intro j y hy d e hd he;refine zb (Rd.wQ hd) λ_ e5 rx=>?_;subst e5;cases hy with
  | none=>
   obtain rfl:=Rd.wK he;exact mis nofun
  | int i'=>
   obtain rfl:=Rd.wD he;exact mis nofun
  | str h'=>
   obtain rfl:=Rd.wI he;exact mis nofun
  | tup hy=>
   refine zb (Rd.wH he) λ_ e6 ry=>?_;subst e6;exact mis nofun
  | lst hy=>
   refine zb (Rd.wQ he) λ_ e6 ry=>?_;subst e6;exact Iff.trans (zlg rx ry λa ha b hb=>ih a ha (hy b hb)) ⟨congrArg AV.lst,zsx⟩
theorem zcf{k j:Nat}{x y:AV}{Q:Bool->AHeap->Prop}(hx:Flat k x)(hy:Flat j y)(hk:k<=100)(h1:x=y->Q true Y)(h2:x≠y->Q false Y):eqG x y Q Y:=by
 refine zb (hx.rd (Y:=Y)) λd r1 l1=>?_;refine zb (hy.rd (Y:=Y)) λe r2 l2=>?_;have:=hx.eqv hy d e r1 r2;unfold eqG;refine zq d e r1 r2 (fE l1 hk) ?_;cases hb:PyData.eqv d e with
 | true=>exact h1 (this.mp hb)
 | false=>exact h2 λq=>by rw[this.mpr q] at hb;cases hb
theorem znW{k:Nat}{x:AV}{d:PyData}{xs:List AV}{ds:List PyData}(hx:Flat k x)(hd:Rd Y x d)(h:∀y∈xs,Flat k y)(r:RdL Y xs ds):(ds.any λy=>PyData.eqv y d)=true↔x∈xs:=by
 induction xs generalizing ds with
 | nil=>obtain rfl:=RdL.wG r;simp
 | cons y ys ih=>
  refine zm (RdL.wF r) λ_ _ e11_2 r1 r2=>?_;subst e11_2;rw[List.any_cons,fDC,ih (λz hz=>h z (fB _ hz)) r2,(h y fA).eqv hx _ _ r1 hd,fJ];exact or_congr ⟨Eq.symm,Eq.symm⟩ Iff.rfl
theorem zh2{k:Nat}{x c:AV}{xs:List AV}{Q:Bool->AHeap->Prop}(hc:c = .lst xs\/c = .tup xs)(hx:Flat k x)(h:∀y∈xs,Flat k y)(hk:k<=100)(h1:x∈xs->Q true Y)(h2:x∉xs->Q false Y):inG x c Q Y:=by
 refine zb (hx.rd (Y:=Y)) λd r1 l1=>?_;refine zb (zeM (Y:=Y) λy hy=>(h y hy).rd) λds r2 l2=>?_;have:=znW hx r1 h r2;unfold inG;refine zq ds d ?_ r1 (fE l2 hk) ?_
 .rcases hc with rfl|rfl
  .exact .inl (.lst r2)
  .exact .inr (.tup r2)
 cases hb:(ds.any λy=>PyData.eqv y d) with
 | true=>exact h1 (this.mp hb)
 | false=>exact h2 λq=>by rw[this.mpr q] at hb;cases hb
theorem zh3{k:Nat}{x:AV}{p:Addr}{xs:List AV}{Q:Bool->AHeap->Prop}(hp:Y p=some (.list xs))(hx:Flat k x)(h:∀y∈xs,Flat k y)(hk:k<=100)(h1:x∈xs->Q true Y)(h2:x∉xs->Q false Y):inR x p Q Y:=by
 refine zb (hx.rd (Y:=Y)) λd r1 l1=>?_;refine zb (zeM (Y:=Y) λy hy=>(h y hy).rd) λds r2 l2=>?_;have:=znW hx r1 h r2;unfold inR inG;refine .inr (.inr (zq ds d (.inl (.list hp r2)) r1 (fE l2 hk) ?_));cases hb:(ds.any λy=>PyData.eqv y d) with
 | true=>exact h1 (this.mp hb)
 | false=>exact h2 λq=>by rw[this.mpr q] at hb;cases hb
theorem zlk{row:List zd}{p:Addr}{kvs:Tab}{Q:Bool->AHeap->Prop}(hp:Y p=some (.tdict kvs))(q:Q (Tab.at kvs row).isSome Y):inR (zC row) p Q Y:=by
 unfold inR;exact .inl (zN kvs row hp rfl q)
theorem Ends.same{Q:zl}{v:AV}(q:Q v Y):Ends Q v Y:=by
 unfold Ends;exact ky (λ_=>none) Y v ⟨λ_ _ h=>(by cases h),λ_ _ h=>h⟩ (.same v) q
theorem Ends.drop{Q:zl}{v:AV}{Y':AHeap}(h:∀a o,Y' a=some o->Y a=some o)(q:Q v Y'):Ends Q v Y:=by
 unfold Ends;exact ky (λ_=>none) Y' v ⟨λ_ _ h=>(by cases h),h⟩ (.same v) q
theorem Ends.one{Q:zl}{p:Addr}{xs:List AV}{Y':AHeap}(h:∀a o,Y' a=some o->Y a=some o)(hp:Y p=some (.list xs))(hp':Y' p=none)(q:Q (.lst xs) Y'):Ends Q (.ref p) Y:=by
 have same:∀φ (l:List AV),FzL φ l l:=λφ l=>by
  induction l with
  | nil=>exact .nil
  | cons x l ih=>exact .cons (.same x) ih
 unfold Ends;refine ky (λa=>if a=p then some xs else none) Y' (.lst xs) ⟨λa ys h1=>?_,h⟩ (.lst (if_pos rfl)) q;split at h1
 .rename_i e;subst e;obtain rfl:=Hy h1;exact kP hp' xs hp (same _ _)
 .exact absurd (Eq.symm h1) (fP _)
end
section
variable{I:AHeap->Prop}{t:Tgt}{d:Dp}{Y:AHeap}{l:Loc}
theorem zfD{α β:Type}{body:AS}{S:zT}{g:α->AV}(J:List α->β->Loc->AHeap->Prop)(f:β->α->β)
  (step:∀x xs b l Y (K:Loc->AHeap->Prop),J (x::xs) b l Y->(∀l' Y',J xs (f b x) l' Y'->K l' Y')->
   ∃l',jL t (g x) l=some l'/\body d l' (A.wL I K S) A.noX Y)
  {xs:List α}{b:β}(fin:∀l Y,J [] (xs.foldl f b) l Y->S .next l Y)(h:J xs b l Y):zhX I t body d S (xs.map g) l Y:=by
 induction xs generalizing l Y b with
 | nil=>exact fin l Y h
 | cons x xs ih=>exact step x xs b l Y _ h λl' Y'=>ih (b:=f b x) fin
theorem zw{α β:Type}{body:AS}{S:zT}{g:α->AV}(J:List α->β->Loc->AHeap->Prop)(f:β->α->β)
  (step:∀x xs b l Y (K:Loc->AHeap->Prop) (S:zT),J (x::xs) b l Y->(∀l' Y',J xs (f b x) l' Y'->K l' Y')->
   ∃l',jL t (g x) l=some l'/\body d l' (A.wL I K S) A.noX Y)
  {xs:List α}{b:β}(fin:∀l Y,J [] (xs.foldl f b) l Y->S .next l Y)(h:J xs b l Y):zhX I t body d S (xs.map g) l Y:=by
 induction xs generalizing l Y b with
 | nil=>exact fin l Y h
 | cons x xs ih=>exact step x xs b l Y _ _ h λl' Y'=>ih (b:=f b x) fin
theorem zmj{α:Type}{c elt:AE}{Q:List AV->AHeap->Prop}(p:α->Bool)(g f:α->AV)(lx:α->Loc){xs:List α}{acc:List AV}(h0:∀x∈xs,jL t (g x) l=some (lx x))(h1:∀x∈xs,∀y∈xs,jL t (g x) (lx y)=some (lx x))
  (hc:∀x∈xs,∀R:Bool->AHeap->Prop,R (p x) Y->c d (lx x) (isB R) (λ_ _=>False) Y)
  (he:∀x∈xs,p x=true->∀R:zl,R (f x) Y->elt d (lx x) R (λ_ _=>False) Y)(hI:I Y)(hl:acc.length+xs.length<=1000000)(q:Q (acc++(xs.filter p).map f) Y):za6 I t (some c) elt d Q (xs.map g) acc l Y:=by
 induction xs generalizing acc l with
 | nil=>simpa [za6] using q
 | cons x xs ih=>
  simp only[fH] at hl;refine zc (lx x) (h0 x fA) ?_;refine hc x fA _ ?_;have go:=λacc'=>ih (acc:=acc') (l:=lx x) (λy hy=>h1 y (fB _ hy) x fA) (λy hy z hz=>h1 y (fB _ hy) z (fB _ hz)) (λy hy=>hc y (fB _ hy)) (λy hy=>he y (fB _ hy));rw[fA9] at q;cases hp:p x with
  | true=>
   rw[if_pos hp] at q;refine he x fA hp _ (zo hI (zv9 hl) (go _ (by rw[fF,fV];exact zv7 hl) ?_));rw[gF];exact q
  | false=>
   rw[if_neg (by rw[hp];exact pU)] at q;exact⟨hI,go _ (zv8 hl) q⟩
theorem zR{α:Type}{c elt:AE}{Q:List AV->AHeap->Prop}{xs:List α}{g:α->AV}(p:α->Bool)(f:α->AV){lx:α->Loc}(h0:∀x,jL t (g x) l=some (lx x))(h1:∀x y,jL t (g x) (lx y)=some (lx x))
  (hc:∀x∈xs,∀R:Bool->AHeap->Prop,R (p x) Y->c d (lx x) (isB R) (λ_ _=>False) Y)
  (he:∀x∈xs,p x=true->∀R:zl,R (f x) Y->elt d (lx x) R (λ_ _=>False) Y)(hI:I Y)(hl:xs.length<=1000000)(q:Q ((xs.filter p).map f) Y):za6 I t (some c) elt d Q (xs.map g) [] l Y:=
 zmj p g f lx (λx _=>h0 x) (λx _ y _=>h1 x y) hc he hI (by rw[gU,fBD];exact hl) q
theorem zoe{α:Type}{elt:AE}{Q:List AV->AHeap->Prop}(g f:α->AV)(lx:α->Loc){xs:List α}{acc:List AV}(h0:∀x∈xs,jL t (g x) l=some (lx x))(h1:∀x∈xs,∀y∈xs,jL t (g x) (lx y)=some (lx x))
  (he:∀x∈xs,∀R:zl,R (f x) Y->elt d (lx x) R (λ_ _=>False) Y)(hI:I Y)(hl:acc.length+xs.length<=1000000)(q:Q (acc++xs.map f) Y):za6 I t none elt d Q (xs.map g) acc l Y:=by
 induction xs generalizing acc l with
 | nil=>simpa [za6] using q
 | cons x xs ih=>
  simp only[fH] at hl;refine zc (lx x) (h0 x fA) (he x fA _ (zo hI (zv9 hl) ?_));refine ih (λy hy=>h1 y (fB _ hy) x fA) (λy hy z hz=>h1 y (fB _ hy) z (fB _ hz)) (λy hy=>he y (fB _ hy)) (by rw[fF,fV];exact zv7 hl) ?_;rw[gF];exact q
theorem zP{α:Type}{elt:AE}{Q:List AV->AHeap->Prop}{xs:List α}{g:α->AV}(f:α->AV){lx:α->Loc}(h0:∀x,jL t (g x) l=some (lx x))(h1:∀x y,jL t (g x) (lx y)=some (lx x))
  (he:∀x∈xs,∀R:zl,R (f x) Y->elt d (lx x) R (λ_ _=>False) Y)(hI:I Y)(hl:xs.length<=1000000)(q:Q (xs.map f) Y):za6 I t none elt d Q (xs.map g) [] l Y:=
 zoe g f lx (λx _=>h0 x) (λx _ y _=>h1 x y) he hI (by rw[gU,fBD];exact hl) q
end
theorem zlm(lo:Int)(n:Nat):zh7 lo n=(List.range n).map (λi:Nat=>AV.int (lo+i)):=by
 induction n generalizing lo with
 | zero=>rfl
 | succ n ih=>
  rw[List.range_succ_eq_map,gJ,gC];show AV.int lo::zh7 (lo+1) n=_;rw[ih];refine congr (congrArg List.cons (by rw[Int.natCast_zero,fC6])) (pK λi _=>?_)
  congr 1;exact y97
theorem zrm(n:Nat):ziO 0 n=(List.range n).map (λi:Nat=>AV.int i):=by
 unfold ziO;rw[zlm];have:((n:Int)-0).toNat=n:=zzf;rw[this];exact pK λi _=>by rw[Int.zero_add]
theorem zm8{n:Nat}(hn:n<=1000000):zdx 0 n=true:=by
 unfold zdx;rw[fCQ,gA];exact⟨rfl,fA1 (ztF hn)⟩
theorem zcA{n:Nat}{K:List AV->Prop}(hn:n<=1000000)(h:K ((List.range n).map λi:Nat=>AV.int i)):onB (zdx 0 n) (K (ziO 0 n)):=jd (zm8 hn) (by rw[zrm];exact h)
theorem atIdx_nat{α:Type}{xs:List α}{n:Nat}:jK xs (n:Int)=xs[n]?:=by unfold jK;rw[if_pos (fAZ n),fCU]
section
open PySem.Spec
theorem zqO{Y:AHeap}{h:Heap}{vs:List Value}{ns:List Int}(hi:IntsAre vs ns):RepVs Y h (ns.map AV.int) vs:=by
 induction hi with
 | nil=>exact .nil
 | cons _ _ _ ih=>exact .cons (.int _ _) ih
theorem head_of{prog:Hj}{w:World}{s₁:Shared}{mg mb:Str->Option Value}{K:Frag}{c:ClaimW}{cl:Str->Option Addr}{mean:ExcName->Option Value}{args:List WData}{l fa:Addr}{vs:List Value}{ns:List Int}
  (G:Gd ⟨prog,w,s₁.heap,s₁.os,mg,mb,[],none⟩ K)(hl:s₁.heap.IsList l vs.toArray)(hi:IntsAre vs ns)(hlen:ns.length<=1000000)(hg:s₁.gens = #[])(hr:∀cls,c.raises args cls=false)(hpost:c.post args (.bool true) args=true)
  (hcall:∀(Q:zl) (Z:XP) (Y:AHeap),(∀Y',Q (.bool true) Y')->CallOk ⟨prog,w,s₁.heap,s₁.os,mg,mb,[],none⟩ fa ⟨0,false⟩ [.lst (ns.map .int)] Q Z Y) :
  Hk (model prog w) callerA (.call (.ref fa) ⟨[.ref l],[]⟩) (GoodW c cl mean args s₁) s₁:=by
 have a:At ⟨prog,w,s₁.heap,s₁.os,mg,mb,[],none⟩ (λb=>if b=l then some (.frz (ns.map .int)) else none) s₁:=by
  refine⟨λb o e=>e,λb o e=>?_,λb o e hro=>?_,hg,rfl,(λL hL=>nomatch hL)⟩
  .split at e
   .rename_i hb;subst hb;obtain rfl:=Hy e;exact zr vs hl (zqO hi) (by simpa using hlen)
   .exact absurd (Eq.symm e) (fP _)
  .split at e
   .obtain rfl:=Hy e;cases hro
   .exact absurd (Eq.symm e) (fP _)
 have L:Live ⟨prog,w,s₁.heap,s₁.os,mg,mb,[],none⟩ ⟨0,false⟩ callerA:=⟨by decide,by decide,λ_=>rfl,by decide,[],rfl,⟨(λe he=>nomatch he),(λL hL=>nomatch hL)⟩,(λe he=>nomatch he)⟩
 have hc:=hcall (λv _=>v = .bool true) (λ_ _=>False) (vis λb=>if b=l then some (.frz (ns.map .int)) else none) λ_=>rfl;unfold CallOk at hc;refine Hh (hc callerA s₁ [.ref l] _ rfl L a (.cons (.lst (if_pos rfl)) .nil)) λr s' x=>?_;cases r with
 | ok f=>
  cases f with
  | ret v=>
   refine zj x λav Y' rv a' st e0_5=>?_;subst e0_5;obtain rfl:=RepV.wN rv;exact zp (.inl (zH _ _ [] rfl hr (.bool true) hpost (λ_=>⟨.nil,λ_ h=>nomatch h⟩))) a'.keep a'.os a'.gens
  | next=>exact x.elim
  | brk=>exact x.elim
  | cont=>exact x.elim
 | error e=>exact noX x
end
section
set_option maxRecDepth 1000000
open PySem.Calls
noncomputable abbrev pw:Hj:=PySem.Challenge.pw_uf060002_12
noncomputable abbrev rw_:OpenLaw:=PySem.Challenge.rw_uf060002_12
noncomputable def st(i:Nat):Stmt:=pw.main.body.getD i (.Pass ⟨0,0,0,0⟩)
noncomputable def co(x q:Str)(n:Nat)(l a:Int)(r s:Nat)(v w:Value)(z k:Nat):Obj:=⟨.type "code",none,.fields #[.str x n,.str q (n+1),.str "/claim/cut.py" (n+2),.int l 0,.int a 0,.int 0 0,.int 0 0,.int 3 0,.ref r,.bool Bool.true,.int 181 0,.ref s,.none,v,w,.ref z,.int (k:Int) 0,.int l 0,.str "/claim/cut.py" (k+1)],#[]⟩
noncomputable def hK(P:Hl):Frag:=[(3,⟨.type "dict",none,.dict #[en P "__name__" 165 (.str "law_uf060002_12" 510),en P "__doc__" 166 (.none),en P "__package__" 167 (.none),en P "__loader__" 168 (.builtin "__main__.__loader__#opaque"),en P "__spec__" 169 (.none),en P "__annotations__" 170 (.ref 6),en P "__builtins__" 171 (.ref 4),en P "__file__" 173 (.str "/claim/cut.py" 172),en P "__cached__" 174 (.none),en P "MOST_DAY" 190 (.int 9999 189),en P "MOST_CENTS" 192 (.int 1000000000 191),en P "is_whole" 199 (.ref 21),en P "is_entry" 207 (.ref 28),en P "entry_of" 216 (.ref 35),en P "in_order" 222 (.ref 40),en P "groups" 235 (.ref 47),en P "TickError" 255 (.ref 57),en P "BadEntry" 271 (.ref 70),en P "BadSpan" 287 (.ref 82),en P "TooMany" 303 (.ref 94),en P "NoMatch" 319 (.ref 106),en P "MOST_BESIDE" 323 (.int 3 322),en P "is_rising" 332 (.ref 115),en P "marks_of" 338 (.ref 120),en P "fits" 344 (.ref 125),en P "rows_of" 350 (.ref 130),en P "by_size" 357 (.ref 137),en P "within" 363 (.ref 142),en P "without" 371 (.ref 147),en P "taken_out" 383 (.ref 154),en P "table" 389 (.ref 159),en P "picked" 395 (.ref 164),en P "MOST_SPAN" 399 (.int 30 398),en P "MOST_MARKS" 401 (.int 8 400),en P "Ledger" 509 (.ref 245),en P "_law_cell_at" 519 (.ref 256),en P "_law_groups" 525 (.ref 261),en P "_law_rows_of" 536 (.ref 268),en P "_law_able" 542 (.ref 273),en P "_law_marks" 548 (.ref 278),en P "_law_least" 554 (.ref 283),en P "_law_picked" 560 (.ref 288),en P "_law_pick" 566 (.ref 293),en P "_law_deed" 572 (.ref 298),en P "_law_lead" 584 (.ref 305),en P "_law_rank" 591 (.ref 312),en P "_law_left" 597 (.ref 317),en P "_law_right" 610 (.ref 324),en P "_law_all_right" 622 (.ref 331),en P "law" 634 (.ref 338)] 50,#[]⟩),(20,co "is_whole" "is_whole" 193 4 1 15 16 (.ref 17) (.ref 18) 19 197),(21,fnO (st 3) (.str "tickoff.entries" 187) (.ref 20)),(27,co "is_entry" "is_entry" 200 6 2 22 23 (.ref 24) (.ref 25) 26 205),(28,fnO (st 4) (.str "tickoff.entries" 187) (.ref 27)),(34,co "entry_of" "entry_of" 208 10 3 29 30 (.ref 31) (.ref 32) 33 214),(35,fnO (st 5) (.str "tickoff.entries" 187) (.ref 34)),(39,co "in_order" "in_order" 217 14 2 36 37 (.none) (.none) 38 220),(40,fnO (st 6) (.str "tickoff.entries" 187) (.ref 39)),(46,co "groups" "groups" 223 18 3 41 42 (.ref 43) (.ref 44) 45 233),(47,fnO (st 7) (.str "tickoff.entries" 187) (.ref 46)),(56,⟨.type "dict",none,.dict #[en P "__module__" 245 (.str "tickoff.errors" 236),en P "__firstlineno__" 249 (.int 29 248),en P "__static_attributes__" 250 (.ref 55),en P "__weakref__" 252 (.ref 58),en P "__doc__" 253 (.none)] 3,#[]⟩),(57,{ cls:=.type "type",data:=.cls       { name:="TickError",bases:=[.type "ValueError"],mro:=[.ref 57,.type "ValueError",.type "Exception",.type "BaseException",.type "object"],ns:=56,qualname:="TickError",subclasses:=[.ref 70,.ref 82,.ref 94,.ref 106] },slots:=#[Option.some (.ref 48),Option.none,Option.some (.str "TickError" 238),Option.some (.str "TickError" 246),Option.some (.builtin "ValueError.__new__"),Option.some (.bool Bool.true)] }),(69,⟨.type "dict",none,.dict #[en P "__module__" 263 (.str "tickoff.errors" 236),en P "__firstlineno__" 267 (.int 31 266),en P "__static_attributes__" 268 (.ref 68),en P "__doc__" 269 (.none)] 2,#[]⟩),(70,{ cls:=.type "type",data:=.cls       { name:="BadEntry",bases:=[.ref 57],mro:=[.ref 70,.ref 57,.type "ValueError",.type "Exception",.type "BaseException",.type "object"],ns:=69,qualname:="BadEntry" },slots:=#[Option.some (.ref 61),Option.none,Option.some (.str "BadEntry" 256),Option.some (.str "BadEntry" 264),Option.some (.builtin "ValueError.__new__"),Option.some (.bool Bool.true)] }),(81,⟨.type "dict",none,.dict #[en P "__module__" 279 (.str "tickoff.errors" 236),en P "__firstlineno__" 283 (.int 33 282),en P "__static_attributes__" 284 (.ref 80),en P "__doc__" 285 (.none)] 2,#[]⟩),(82,{ cls:=.type "type",data:=.cls       { name:="BadSpan",bases:=[.ref 57],mro:=[.ref 82,.ref 57,.type "ValueError",.type "Exception",.type "BaseException",.type "object"],ns:=81,qualname:="BadSpan" },slots:=#[Option.some (.ref 73),Option.none,Option.some (.str "BadSpan" 272),Option.some (.str "BadSpan" 280),Option.some (.builtin "ValueError.__new__"),Option.some (.bool Bool.true)] }),(93,⟨.type "dict",none,.dict #[en P "__module__" 295 (.str "tickoff.errors" 236),en P "__firstlineno__" 299 (.int 35 298),en P "__static_attributes__" 300 (.ref 92),en P "__doc__" 301 (.none)] 2,#[]⟩),(94,{ cls:=.type "type",data:=.cls       { name:="TooMany",bases:=[.ref 57],mro:=[.ref 94,.ref 57,.type "ValueError",.type "Exception",.type "BaseException",.type "object"],ns:=93,qualname:="TooMany" },slots:=#[Option.some (.ref 85),Option.none,Option.some (.str "TooMany" 288),Option.some (.str "TooMany" 296),Option.some (.builtin "ValueError.__new__"),Option.some (.bool Bool.true)] }),(105,⟨.type "dict",none,.dict #[en P "__module__" 311 (.str "tickoff.errors" 236),en P "__firstlineno__" 315 (.int 37 314),en P "__static_attributes__" 316 (.ref 104),en P "__doc__" 317 (.none)] 2,#[]⟩),(106,{ cls:=.type "type",data:=.cls       { name:="NoMatch",bases:=[.ref 57],mro:=[.ref 106,.ref 57,.type "ValueError",.type "Exception",.type "BaseException",.type "object"],ns:=105,qualname:="NoMatch" },slots:=#[Option.some (.ref 97),Option.none,Option.some (.str "NoMatch" 304),Option.some (.str "NoMatch" 312),Option.some (.builtin "ValueError.__new__"),Option.some (.bool Bool.true)] }),(114,co "is_rising" "is_rising" 324 41 2 109 110 (.ref 111) (.ref 112) 113 330),(115,fnO (st 16) (.str "tickoff.matching" 320) (.ref 114)),(119,co "marks_of" "marks_of" 333 48 1 116 117 (.none) (.none) 118 336),(120,fnO (st 17) (.str "tickoff.matching" 320) (.ref 119)),(124,co "fits" "fits" 339 50 4 121 122 (.none) (.none) 123 342),(125,fnO (st 18) (.str "tickoff.matching" 320) (.ref 124)),(129,co "rows_of" "rows_of" 345 61 2 126 127 (.none) (.none) 128 348),(130,fnO (st 19) (.str "tickoff.matching" 320) (.ref 129)),(136,co "by_size" "by_size" 351 69 1 131 132 (.ref 133) (.ref 134) 135 355),(137,fnO (st 20) (.str "tickoff.matching" 320) (.ref 136)),(141,co "within" "within" 358 71 4 138 139 (.none) (.none) 140 361),(142,fnO (st 21) (.str "tickoff.matching" 320) (.ref 141)),(146,co "without" "without" 366 82 2 143 144 (.none) (.none) 145 369),(147,fnO (st 23) (.str "tickoff.picking" 364) (.ref 146)),(153,co "taken_out" "taken_out" 372 87 2 148 149 (.ref 150) (.ref 151) 152 381),(154,fnO (st 24) (.str "tickoff.picking" 364) (.ref 153)),(158,co "table" "table" 384 96 2 155 156 (.none) (.none) 157 387),(159,fnO (st 25) (.str "tickoff.picking" 364) (.ref 158)),(163,co "picked" "picked" 390 118 2 160 161 (.none) (.none) 162 393),(164,fnO (st 26) (.str "tickoff.picking" 364) (.ref 163)),(177,co "__init__" "Ledger.__init__" 414 135 2 172 173 (.ref 174) (.ref 175) 176 419),(178,fnQ (zbb (st 30) 0) "Ledger.__init__" (.str "tickoff.ledger" 396) (.ref 177)),(184,co "all_groups" "Ledger.all_groups" 422 143 1 179 180 (.ref 181) (.ref 182) 183 426),(185,fnQ (zbb (st 30) 1) "Ledger.all_groups" (.str "tickoff.ledger" 396) (.ref 184)),(189,co "pick" "Ledger.pick" 429 146 2 186 187 (.none) (.none) 188 432),(190,fnQ (zbb (st 30) 2) "Ledger.pick" (.str "tickoff.ledger" 396) (.ref 189)),(196,co "put" "Ledger.put" 435 151 4 191 192 (.ref 193) (.ref 194) 195 444),(197,fnQ (zbb (st 30) 3) "Ledger.put" (.str "tickoff.ledger" 396) (.ref 196)),(203,co "entry" "Ledger.entry" 447 163 3 198 199 (.ref 200) (.ref 201) 202 453),(204,fnQ (zbb (st 30) 4) "Ledger.entry" (.str "tickoff.ledger" 396) (.ref 203)),(210,co "matches" "Ledger.matches" 456 166 1 205 206 (.ref 207) (.ref 208) 209 460),(211,fnQ (zbb (st 30) 5) "Ledger.matches" (.str "tickoff.ledger" 396) (.ref 210)),(217,co "barred" "Ledger.barred" 463 169 1 212 213 (.ref 214) (.ref 215) 216 467),(218,fnQ (zbb (st 30) 6) "Ledger.barred" (.str "tickoff.ledger" 396) (.ref 217)),(222,co "left" "Ledger.left" 470 172 2 219 220 (.none) (.none) 221 473),(223,fnQ (zbb (st 30) 7) "Ledger.left" (.str "tickoff.ledger" 396) (.ref 222)),(227,co "group_of" "Ledger.group_of" 476 178 3 224 225 (.none) (.none) 226 479),(228,fnQ (zbb (st 30) 8) "Ledger.group_of" (.str "tickoff.ledger" 396) (.ref 227)),(234,co "take_back" "Ledger.take_back" 482 181 2 229 230 (.ref 231) (.ref 232) 233 487),(235,fnQ (zbb (st 30) 9) "Ledger.take_back" (.str "tickoff.ledger" 396) (.ref 234)),(241,co "again" "Ledger.again" 490 187 1 236 237 (.ref 238) (.ref 239) 240 495),(242,fnQ (zbb (st 30) 10) "Ledger.again" (.str "tickoff.ledger" 396) (.ref 241)),(244,⟨.type "dict",none,.dict #[en P "__module__" 409 (.str "tickoff.ledger" 396),en P "__firstlineno__" 413 (.int 133 412),en P "__init__" 421 (.ref 178),en P "all_groups" 428 (.ref 185),en P "pick" 434 (.ref 190),en P "put" 446 (.ref 197),en P "entry" 455 (.ref 204),en P "matches" 462 (.ref 211),en P "barred" 469 (.ref 218),en P "left" 475 (.ref 223),en P "group_of" 481 (.ref 228),en P "take_back" 489 (.ref 235),en P "again" 497 (.ref 242),en P "__static_attributes__" 502 (.ref 243),en P "__dict__" 504 (.ref 246),en P "__weakref__" 506 (.ref 247),en P "__doc__" 507 (.none)] 4,#[]⟩),(245,{ cls:=.type "type",data:=.cls       { name:="Ledger",bases:=[.type "object"],mro:=[.ref 245,.type "object"],ns:=244,qualname:="Ledger" },slots:=#[Option.none,Option.none,Option.some (.str "Ledger" 402),Option.some (.str "Ledger" 410),Option.some (.builtin "object.__new__"),Option.some (.bool Bool.true)] }),(255,co "_law_cell_at" "_law_cell_at" 512 191 2 250 251 (.ref 252) (.ref 253) 254 517),(256,fnO (st 32) (.str "law_uf060002_12" 510) (.ref 255)),(260,co "_law_groups" "_law_groups" 520 195 2 257 258 (.none) (.none) 259 523),(261,fnO (st 33) (.str "law_uf060002_12" 510) (.ref 260)),(267,co "_law_rows_of" "_law_rows_of" 526 204 1 262 263 (.ref 264) (.ref 265) 266 534),(268,fnO (st 34) (.str "law_uf060002_12" 510) (.ref 267)),(272,co "_law_able" "_law_able" 537 213 3 269 270 (.none) (.none) 271 540),(273,fnO (st 35) (.str "law_uf060002_12" 510) (.ref 272)),(277,co "_law_marks" "_law_marks" 543 225 1 274 275 (.none) (.none) 276 546),(278,fnO (st 36) (.str "law_uf060002_12" 510) (.ref 277)),(282,co "_law_least" "_law_least" 549 227 3 279 280 (.none) (.none) 281 552),(283,fnO (st 37) (.str "law_uf060002_12" 510) (.ref 282)),(287,co "_law_picked" "_law_picked" 555 240 2 284 285 (.none) (.none) 286 558),(288,fnO (st 38) (.str "law_uf060002_12" 510) (.ref 287)),(292,co "_law_pick" "_law_pick" 561 258 3 289 290 (.none) (.none) 291 564),(293,fnO (st 39) (.str "law_uf060002_12" 510) (.ref 292)),(297,co "_law_deed" "_law_deed" 567 261 4 294 295 (.none) (.none) 296 570),(298,fnO (st 40) (.str "law_uf060002_12" 510) (.ref 297)),(304,co "_law_lead" "_law_lead" 573 286 3 299 300 (.ref 301) (.ref 302) 303 582),(305,fnO (st 41) (.str "law_uf060002_12" 510) (.ref 304)),(311,co "_law_rank" "_law_rank" 585 292 1 306 307 (.ref 308) (.ref 309) 310 589),(312,fnO (st 42) (.str "law_uf060002_12" 510) (.ref 311)),(316,co "_law_left" "_law_left" 592 294 2 313 314 (.none) (.none) 315 595),(317,fnO (st 43) (.str "law_uf060002_12" 510) (.ref 316)),(323,co "_law_right" "_law_right" 598 299 4 318 319 (.ref 320) (.ref 321) 322 608),(324,fnO (st 44) (.str "law_uf060002_12" 510) (.ref 323)),(330,co "_law_all_right" "_law_all_right" 611 312 4 325 326 (.ref 327) (.ref 328) 329 620),(331,fnO (st 45) (.str "law_uf060002_12" 510) (.ref 330)),(337,co "law" "law" 623 319 1 332 333 (.ref 334) (.ref 335) 336 632),(338,fnO (st 46) (.str "law_uf060002_12" 510) (.ref 337))]
noncomputable def hA:List Addr:=[3,20,21,27,28,34,35,39,40,46,47,56,57,69,70,81,82,93,94,105,106,114,115,119,120,124,125,129,130,136,137,141,142,146,147,153,154,158,159,163,164,177,178,184,185,189,190,196,197,203,204,210,211,217,218,222,223,227,228,234,235,241,242,244,245,255,256,260,261,267,268,272,273,277,278,282,283,287,288,292,293,297,298,304,305,311,312,316,317,323,324,330,331,337,338]
noncomputable def qv:Hj:={ pw with main:={ pw.main with body:=[st 46] } }
noncomputable def lsv:List Str:=[("MOST_DAY" : Str),("MOST_CENTS" : Str),("is_whole" : Str),("is_entry" : Str),("entry_of" : Str),("in_order" : Str),("groups" : Str),("TickError" : Str),("BadEntry" : Str),("BadSpan" : Str),("TooMany" : Str),("NoMatch" : Str),("MOST_BESIDE" : Str),("is_rising" : Str),("marks_of" : Str),("fits" : Str),("rows_of" : Str),("by_size" : Str),("within" : Str),("without" : Str),("taken_out" : Str),("table" : Str),("picked" : Str),("MOST_SPAN" : Str),("MOST_MARKS" : Str),("Ledger" : Str),("_law_cell_at" : Str),("_law_groups" : Str),("_law_rows_of" : Str),("_law_able" : Str),("_law_marks" : Str),("_law_least" : Str),("_law_picked" : Str),("_law_pick" : Str),("_law_deed" : Str),("_law_lead" : Str),("_law_rank" : Str),("_law_left" : Str),("_law_right" : Str),("_law_all_right" : Str)]
noncomputable def hH:Hook:=kHook hK hA (λ_=>by kernel_rfl)
noncomputable def hX(s:Shared):Bool:=xlAt qv [] s&&recOk [] s
noncomputable def dL:DefRec×List (Str×Expr):=(defOf qv "law").get (by kernel_rfl)
theorem zyr:rw_.wellSaid=true:=by
 rw[PySem.W.Fast.te9446332074065402090]
 kernel_rfl
theorem zuH(w:World)(os:OsState):(PySem.W.Fast.tw10110043849684766642 PySem.W.Fast.tw14364793385576792824 pw w 11 (some (.ref 6)) 0 2554 (zn1 w os) (topStub pw)).map (λr=>zhq pw qv lsv hX hH.obs w.params r.2.1.abs)=some (true,openGood qv lsv,hH.val w):=by kernel_rfl
theorem left:LeftO pw qv lsv hX hH.obs hH.val 2554:=by
 refine zmN (by kernel_rfl) (by kernel_rfl) (λs=>by kernel_rfl) λw os=>?_;rw[PySem.W.Fast.te10110043849684766642,PySem.W.Fast.te14364793385576792824];exact zuH w os
theorem hd(h:WalkO qv lsv (XL qv []) hH.says rw_.row.toRowW dL.1 dL.2 λf vs=>PySem.call f vs):rw_.Holds:=by
 refine holds_law zyr λsaid'=>?_;refine holds_open (q:=qv) (loose:=lsv) (Xt:=hX) (XP:=XL qv []) (Yf:=hH.obs) (Ya:=hH.val) (YP:=hH.says) (N:=2554) (d:=dL.1) (kwd:=dL.2) left hH.of hH.keeps (λs e=>xl_of s (gA.mp e).1) XL.keeps (by kernel_rfl) (by kernel_rfl) (by kernel_rfl) (λs e=>recFacts_of (gA.mp e).2) (by kernel_rfl) said' (by kernel_rfl) ⟨rfl,rfl,rfl,rfl,rfl,by decide +kernel⟩ ?hw h;exact⟨[.list []],by decide +kernel,by decide +kernel⟩
theorem dL_name:dL.1.name = "law":=by kernel_rfl
end
open A renaming loc -> Ga, k -> Gb, cons -> Gc, nil -> Ge, idx -> Gf, bin -> Gg, set -> Gh, prim -> Gi, cmp -> Gj, wE -> Gk, itP -> Gm, ret -> Gn, tup -> Gp, lst -> Gq, if_ -> Gr, lc -> Gs, ex -> Gu, fr -> Gv, meth -> Gw, noX -> Gx, wL -> Gy, wR -> Gz, wO -> G0, wS -> G1, wT -> G2, neg -> G3, wU -> G4, wY -> G5, wW -> G6, itE -> G7
section
set_option maxRecDepth 1000000
noncomputable abbrev KOf(f:Addr)(m:Cx->AS)(as:List AV)(l:Loc):Prop:=∀{P:Hl} {X:Cx} {n:Nat} {hb:Bool} {Q:zl} {Z:XP} {Y:AHeap},Gd X (hK P)->n<600->(∀L,m (X.push L) ⟨n+1,hb⟩ l (A.vF Q) (A.kEz Z) Y)->CallOk X f ⟨n,hb⟩ as Q Z Y
variable{a0 a1 a2 a3 a4 a5:AV}
noncomputable def exs:List (Addr×List Addr):=[(57,[]),(70,[57]),(82,[57]),(94,[57]),(106,[57])]
theorem zsM(P:Hl):zhy (hK P) exs:=by
 intro p hp;simp only[exs,fJ,gD,or_false] at hp
 rcases hp with rfl|rfl|rfl|rfl|rfl
 all_goals exact⟨by kernel_rfl,by kernel_rfl,by kernel_rfl,by kernel_rfl,by kernel_rfl,by kernel_rfl⟩
theorem kOf{f:Addr}{m:Cx->AS}{as:List AV}{l:Loc}{refs:List (Nat×Nat)}{v:List Str}{k:Nat}(c:∀P X,cF X (hK P) 245 exs f refs (List.take k v) (List.zipIdx v)=some (m X))(b:∀P vs,vs.length=(List.take k v).length->(zgC (hK P) f).map (λfd=>bindArgs fd ⟨vs,[]⟩)=some (pure ((List.take k v).zip vs)))(hl:as.length=(List.take k v).length)(e:zgR as (kC (List.zipIdx v))=l):KOf f m as l:=λ{P} _ _ _ _ _ _ G hd h=>zup _ _ G (zsM P) (c P) (b P) hd hl λL=>e▸h L
def zev(X:Cx):AS:=(Gc (Gn (za2 [A.isa .int (Ga 0),G2 (A.isa .bool (Ga 0))])) Ge)
noncomputable def ze7:List Str:=["thing"]
theorem zjv(P:Hl)(X:Cx):cF X (hK P) 245 exs 21 [] (List.take 1 ze7) (List.zipIdx ze7)=some (zev X):=by kernel_rfl
theorem zjY:KOf 21 zev [a0] [some a0]:=@kOf _ _ _ _ _ _ _ zjv (λP=>km λa0=>by kernel_rfl) rfl rfl
def zet(X:Cx):AS:=(Gc (Gr (orL [G2 (Gk X 21 [Ga 0]),G2 (Gk X 21 [Ga 1]),Gj (Ga 1) [(.Eq,(Gb (.int 0)))]]) (Gc (Gn (Gb (.bool false))) Ge) Ge) (Gc (Gn (za2 [Gj (Gb (.int 0)) [(.LtE,(Ga 0)),(.LtE,(Gb (.int 9999)))],Gj (Gg false .Sub (Gb (.int 0)) (Gb (.int 1000000000))) [(.LtE,(Ga 1)),(.LtE,(Gb (.int 1000000000)))]])) Ge))
noncomputable def ze6:List Str:=["day","cents"]
theorem zju(P:Hl)(X:Cx):cF X (hK P) 245 exs 28 [] (List.take 2 ze6) (List.zipIdx ze6)=some (zet X):=by kernel_rfl
theorem zjX:KOf 28 zet [a0,a1] [some a0,some a1]:=@kOf _ _ _ _ _ _ _ zju (λP=>jZ λa0 a1=>by kernel_rfl) rfl rfl
def zeq(X:Cx):AS:=(Gc (Gr (Gj (Gf (Ga 2) (Gb (.int 0))) [(.Eq,(Gb (.str 0)))]) (Gc (Gn (Gf (Ga 0) (Gf (Ga 2) (Gb (.int 1))))) Ge) Ge) (Gc (Gn (Gf (Ga 1) (Gf (Ga 2) (Gb (.int 1))))) Ge))
noncomputable def ze3:List Str:=["banks","books","mark"]
theorem zjr(P:Hl)(X:Cx):cF X (hK P) 245 exs 35 [] (List.take 3 ze3) (List.zipIdx ze3)=some (zeq X):=by kernel_rfl
theorem zjU:KOf 35 zeq [a0,a1,a2] [some a0,some a1,some a2]:=@kOf _ _ _ _ _ _ _ zjr (λP=>zbN λa0 a1 a2=>by kernel_rfl) rfl rfl
def zes(X:Cx):AS:=(Gc (Gh 2 (Gs false (Gm (Gi qs false [Gi jm false [Ga 0]])) (.one 4) 2 none (Gp [Gf (Gf (Ga 0) (Ga 4)) (Gb (.int 0)),Gb (.str 0),Ga 4]))) (Gc (Gh 2 (Gg false .Add (Ga 2) (Gs false (Gm (Gi qs false [Gi jm false [Ga 1]])) (.one 4) 2 none (Gp [Gf (Gf (Ga 1) (Ga 4)) (Gb (.int 0)),Gb (.str 1),Ga 4])))) (Gc (Gn (Gs false (Gm (Gi q6 false [Ga 2])) (.many [4,5,6]) 4 none (Gp [Ga 5,Ga 6]))) Ge)))
noncomputable def ze5:List Str:=["banks","books","rows"]
theorem zjt(P:Hl)(X:Cx):cF X (hK P) 245 exs 40 [] (List.take 2 ze5) (List.zipIdx ze5)=some (zes X):=by kernel_rfl
theorem zjW:KOf 40 zes [a0,a1] [some a0,some a1,none]:=@kOf _ _ _ _ _ _ _ zjt (λP=>jZ λa0 a1=>by kernel_rfl) rfl rfl
def zdo(X:Cx):AS:=(Gc (Gh 6 (Gf (Gk X 35 [Ga 0,Ga 1,Ga 5]) (Gb (.int 0)))) (Gc (Gr (orL [Gj (Ga 4) [(.Is,(Gb .none))],Gj (Ga 6) [(.Gt,(Gg false .Add (Ga 4) (Ga 2)))]]) (Gc (Gu (Gw zQ (Ga 3) [Gq true []])) Ge) Ge) (Gc (Gu (Gw zQ (Gf (Ga 3) (G3 (Gb (.int 1)))) [Ga 5])) (Gc (Gh 4 (Ga 6)) Ge))))
def zir(X:Cx):AS:=(Gc (Gh 3 (Gq true [])) (Gc (Gh 4 (Gb .none)) (Gc (Gv (Gm (Gk X 40 [Ga 0,Ga 1])) (.one 5) (zdo X)) (Gc (Gn (Ga 3)) Ge))))
noncomputable def zjb:List Str:=["banks","books","span","found","last","mark","day"]
theorem zob(P:Hl)(X:Cx):cF X (hK P) 245 exs 47 [(19,12),(24,25)] (List.take 3 zjb) (List.zipIdx zjb)=some (zir X):=by kernel_rfl
theorem zoM:KOf 47 zir [a0,a1,a2] [some a0,some a1,some a2,none,none,none,none]:=@kOf _ _ _ _ _ _ _ zob (λP=>zbN λa0 a1 a2=>by kernel_rfl) rfl rfl
def zeu(X:Cx):AS:=(Gc (Gr (G2 (Gj (Gb (.int 0)) [(.LtE,(Gf (Ga 0) (Ga 2))),(.Lt,(Ga 1))])) (Gc (Gn (Gb (.bool false))) Ge) Ge) (Gc (Gr (za2 [Gj (Ga 2) [(.Gt,(Gb (.int 0)))],Gj (Gf (Ga 0) (Ga 2)) [(.LtE,(Gf (Ga 0) (Gg false .Sub (Ga 2) (Gb (.int 1)))))]]) (Gc (Gn (Gb (.bool false))) Ge) Ge) Ge))
def zdp(X:Cx):AS:=(Gc (Gv (Gm (Gi qs false [Gi jm false [Ga 0]])) (.one 2) (zeu X)) (Gc (Gn (Gb (.bool true))) Ge))
noncomputable def zdF:List Str:=["places","many","k"]
theorem zhH(P:Hl)(X:Cx):cF X (hK P) 245 exs 115 [] (List.take 2 zdF) (List.zipIdx zdF)=some (zdp X):=by kernel_rfl
theorem zie:KOf 115 zdp [a0,a1] [some a0,some a1,none]:=@kOf _ _ _ _ _ _ _ zhH (λP=>jZ λa0 a1=>by kernel_rfl) rfl rfl
def zey(X:Cx):AS:=(Gc (Gn (Gg false .Add (Gs false (Gm (Gf (Ga 0) (Gb (.int 0)))) (.one 2) 2 none (Gp [Gb (.str 0),Ga 2])) (Gs false (Gm (Gf (Ga 0) (Gb (.int 1)))) (.one 2) 2 none (Gp [Gb (.str 1),Ga 2])))) Ge)
noncomputable def zfa:List Str:=["match"]
theorem zjy(P:Hl)(X:Cx):cF X (hK P) 245 exs 120 [] (List.take 1 zfa) (List.zipIdx zfa)=some (zey X):=by kernel_rfl
theorem zj1:KOf 120 zey [a0] [some a0]:=@kOf _ _ _ _ _ _ _ zjy (λP=>km λa0=>by kernel_rfl) rfl rfl
def zo3(X:Cx):AS:=(Gc (Gh 4 (Gi zki false [Gi jm false [Gf (Ga 3) (Gb (.int 0))],Gi jm false [Gf (Ga 3) (Gb (.int 1))]])) (Gc (Gh 5 (Gi zpr false [Gi jm false [Gf (Ga 3) (Gb (.int 0))],Gi jm false [Gf (Ga 3) (Gb (.int 1))]])) (Gc (Gr (orL [Gj (Ga 4) [(.NotEq,(Gb (.int 1)))],Gj (Ga 5) [(.Gt,(Gb (.int 3)))]]) (Gc (Gn (Gb (.bool false))) Ge) Ge) (Gc (Gr (orL [G2 (Gk X 115 [Gf (Ga 3) (Gb (.int 0)),Gi jm false [Ga 0]]),G2 (Gk X 115 [Gf (Ga 3) (Gb (.int 1)),Gi jm false [Ga 1]])]) (Gc (Gn (Gb (.bool false))) Ge) Ge) (Gc (Gr (Gj (Gi zm3 false [Gs false (Gm (Gf (Ga 3) (Gb (.int 0)))) (.one 8) 2 none (Gf (Gf (Ga 0) (Ga 8)) (Gb (.int 1)))]) [(.NotEq,(Gi zm3 false [Gs false (Gm (Gf (Ga 3) (Gb (.int 1)))) (.one 8) 2 none (Gf (Gf (Ga 1) (Ga 8)) (Gb (.int 1)))]))]) (Gc (Gn (Gb (.bool false))) Ge) Ge) (Gc (Gh 6 (Gs false (Gm (Gk X 120 [Ga 3])) (.one 8) 2 none (Gf (Gk X 35 [Ga 0,Ga 1,Ga 8]) (Gb (.int 0))))) (Gc (Gn (Gj (Gg false .Sub (Gi zpr false [Ga 6]) (Gi zki false [Ga 6])) [(.LtE,(Ga 2))])) Ge)))))))
noncomputable def zp5:List Str:=["banks","books","span","match","few","many","days"]
theorem zsE(P:Hl)(X:Cx):cF X (hK P) 245 exs 125 [] (List.take 4 zp5) (List.zipIdx zp5)=some (zo3 X):=by kernel_rfl
theorem zsV:KOf 125 zo3 [a0,a1,a2,a3] [some a0,some a1,some a2,some a3,none,none,none]:=@kOf _ _ _ _ _ _ _ zsE (λP=>zcU λa0 a1 a2 a3=>by kernel_rfl) rfl rfl
def zgW(X:Cx):AS:=(Gc (Gh 4 (Gg false .Add (Ga 4) (Gs false (Gm (Ga 0)) (.one 7) 2 (some (orL [Gj (Ga 5) [(.Eq,(Gp []))],Gj (Ga 7) [(.Gt,(Gf (Ga 5) (G3 (Gb (.int 1)))))]])) (Gg false .Add (Ga 5) (Gp [Ga 7]))))) Ge)
def zgV(X:Cx):AS:=(Gc (Gh 4 (Gq false [])) (Gc (Gv (Gm (Ga 2)) (.one 5) (zgW X)) (Gc (Gh 2 (Ga 4)) Ge)))
def zfS(X:Cx):AS:=(Gc (Gh 2 (Gq false [Gp []])) (Gc (Gv (Gm (Gi qs false [Ga 1])) (.one 3) (zgV X)) (Gc (Gn (Ga 2)) Ge)))
noncomputable def zgb:List Str:=["places","many","rows","turn","longer","row"]
theorem zmd(P:Hl)(X:Cx):cF X (hK P) 245 exs 130 [] (List.take 2 zgb) (List.zipIdx zgb)=some (zfS X):=by kernel_rfl
theorem zmH:KOf 130 zfS [a0,a1] [some a0,some a1,none,none,none,none]:=@kOf _ _ _ _ _ _ _ zmd (λP=>jZ λa0 a1=>by kernel_rfl) rfl rfl
def zfP(X:Cx):AS:=(Gc (Gn (Gp [Gg false .Add (Gi jm false [Gf (Ga 0) (Gb (.int 0))]) (Gi jm false [Gf (Ga 0) (Gb (.int 1))]),Ga 0])) Ge)
noncomputable def zf8:List Str:=["match"]
theorem zma(P:Hl)(X:Cx):cF X (hK P) 245 exs 137 [] (List.take 1 zf8) (List.zipIdx zf8)=some (zfP X):=by kernel_rfl
theorem zmE:KOf 137 zfP [a0] [some a0]:=@kOf _ _ _ _ _ _ _ zma (λP=>km λa0=>by kernel_rfl) rfl rfl
def zdu(X:Cx):AS:=(Gc (Gr (Gk X 125 [Ga 0,Ga 1,Ga 2,Gp [Ga 8,Ga 9]]) (Gc (Gu (Gw zQ (Ga 6) [Gp [Ga 8,Ga 9]])) Ge) Ge) Ge)
def zdt(X:Cx):AS:=(Gc (Gv (Gm (Gk X 130 [Ga 5,Gf (Ga 7) (Gb (.int 1))])) (.one 9) (zdu X)) Ge)
def zds(X:Cx):AS:=(Gc (Gv (Gm (Gk X 130 [Ga 4,Gf (Ga 7) (Gb (.int 0))])) (.one 8) (zdt X)) Ge)
def ziv(X:Cx):AS:=(Gc (Gh 4 (Gi q6 false [Gs false (Gm (Ga 3)) (.many [11,12]) 3 (some (Gj (Ga 11) [(.Eq,(Gb (.str 0)))])) (Ga 12)])) (Gc (Gh 5 (Gi q6 false [Gs false (Gm (Ga 3)) (.many [11,12]) 3 (some (Gj (Ga 11) [(.Eq,(Gb (.str 1)))])) (Ga 12)])) (Gc (Gh 6 (Gq true [])) (Gc (Gv (Gm (Gp [Gp [Gb (.int 1),Gb (.int 1)],Gp [Gb (.int 1),Gb (.int 2)],Gp [Gb (.int 2),Gb (.int 1)],Gp [Gb (.int 1),Gb (.int 3)],Gp [Gb (.int 3),Gb (.int 1)]])) (.one 7) (zds X)) (Gc (Gn (A.w4 X 137 false (Ga 6))) Ge)))))
noncomputable def zjd:List Str:=["banks","books","span","group","ones","others","found","sizes","left","right"]
theorem zod(P:Hl)(X:Cx):cF X (hK P) 245 exs 142 [(74,12)] (List.take 4 zjd) (List.zipIdx zjd)=some (ziv X):=by kernel_rfl
theorem zoO:KOf 142 ziv [a0,a1,a2,a3] [some a0,some a1,some a2,some a3,none,none,none,none,none,none]:=@kOf _ _ _ _ _ _ _ zod (λP=>zcU λa0 a1 a2 a3=>by kernel_rfl) rfl rfl
def zgX(X:Cx):AS:=(Gc (Gr (Gj (Ga 2) [(.NotIn,(Ga 0))]) (Gc (Gn (Gb .none)) Ge) Ge) Ge)
def zfT(X:Cx):AS:=(Gc (Gv (Gm (Ga 1)) (.one 2) (zgX X)) (Gc (Gn (Gi zbm false [Gs false (Gm (Ga 0)) (.one 4) 2 (some (Gj (Ga 4) [(.NotIn,(Ga 1))])) (Ga 4)])) Ge))
noncomputable def zgc:List Str:=["rest","marks","mark"]
theorem zme(P:Hl)(X:Cx):cF X (hK P) 245 exs 147 [] (List.take 2 zgc) (List.zipIdx zgc)=some (zfT X):=by kernel_rfl
theorem zmI:KOf 147 zfT [a0,a1] [some a0,some a1,none]:=@kOf _ _ _ _ _ _ _ zme (λP=>jZ λa0 a1=>by kernel_rfl) rfl rfl
def zeA(X:Cx):AS:=(Gc (Gh 4 (Gk X 120 [Ga 3])) (Gc (Gr (Gj (Gf (Ga 0) (Gb (.int 0))) [(.In,(Ga 4))]) (Gc (Gh 5 (Gk X 147 [Ga 0,Ga 4])) (Gc (Gr (Gj (Ga 5) [(.IsNot,(Gb .none))]) (Gc (Gu (Gw zQ (Ga 2) [Gp [Ga 3,Ga 5]])) Ge) Ge) Ge)) Ge) Ge))
def zdr(X:Cx):AS:=(Gc (Gh 2 (Gq true [])) (Gc (Gv (Gm (Ga 1)) (.one 3) (zeA X)) (Gc (Gn (Ga 2)) Ge)))
noncomputable def zdH:List Str:=["rest","matches","found","match","marks","behind"]
theorem zhJ(P:Hl)(X:Cx):cF X (hK P) 245 exs 154 [(88,12)] (List.take 2 zdH) (List.zipIdx zdH)=some (zdr X):=by kernel_rfl
theorem zig:KOf 154 zdr [a0,a1] [some a0,some a1,none,none,none,none]:=@kOf _ _ _ _ _ _ _ zhJ (λP=>jZ λa0 a1=>by kernel_rfl) rfl rfl
def zbW(X:Cx):AS:=(Gc (Gr (Gj (Ga 8) [(.NotIn,(Ga 3))]) (Gc (G1 (Gb (.bool true)) (Ga 3) (Ga 8)) (Gc (Gu (Gw zQ (Ga 4) [Ga 8])) Ge)) Ge) Ge)
def zj6(X:Cx):AS:=(Gc (Gh 6 (Gf (Ga 4) (Ga 5))) (Gc (Gh 5 (Gg false .Add (Ga 5) (Gb (.int 1)))) (Gc (Gh 7 (Gq false [])) (Gc (Gr (Gj (Ga 6) [(.NotEq,(Gp []))]) (Gc (Gh 7 (Gg false .Add (Gq false [G4 false (Ga 6) (some (Gb (.int 1))) none]) (Gs false (Gm (Gk X 154 [Ga 6,Ga 1])) (.many [12,13]) 3 none (Ga 13)))) Ge) Ge) (Gc (Gv (Gm (Ga 7)) (.one 8) (zbW X)) Ge)))))
def zez(X:Cx):AS:=(Gc (G1 (Gb (.int 0)) (Ga 9) (Ga 6)) (Gc (Gr (Gj (Ga 6) [(.NotEq,(Gp []))]) (Gc (Gh 10 (Gs false (Gm (Gk X 154 [Ga 6,Ga 1])) (.many [12,13]) 3 none (Gf (Ga 9) (Ga 13)))) (Gc (G1 (Gi zki false [Gg false .Add (Gq false [Gg false .Add (Gb (.int 1)) (Gf (Ga 9) (G4 false (Ga 6) (some (Gb (.int 1))) none))]) (Ga 10)]) (Ga 9) (Ga 6)) Ge)) Ge) Ge))
def zlv(X:Cx):AS:=(Gc (Gh 2 (Gi zbm false [Ga 0])) (Gc (Gh 3 (A.dT1 (Ga 2) (Gb (.bool true)))) (Gc (Gh 4 (Gq true [Ga 2])) (Gc (Gh 5 (Gb (.int 0))) (Gc (A.w2 (Gj (Ga 5) [(.Lt,(Gi jm false [Ga 4]))]) (zj6 X)) (Gc (Gh 9 A.dT0) (Gc (Gv (Gm (A.w6 false (Ga 4))) (.one 6) (zez X)) (Gc (Gn (Ga 9)) Ge))))))))
noncomputable def zlZ:List Str:=["group","matches","begin","met","row","at","rest","nexts","behind","least","some"]
theorem zqu(P:Hl)(X:Cx):cF X (hK P) 245 exs 159 [(99,10)] (List.take 2 zlZ) (List.zipIdx zlZ)=some (zlv X):=by kernel_rfl
theorem zqX:KOf 159 zlv [a0,a1] [some a0,some a1,none,none,none,none,none,none,none,none,none]:=@kOf _ _ _ _ _ _ _ zqu (λP=>jZ λa0 a1=>by kernel_rfl) rfl rfl
def ziu(X:Cx):AS:=(Gc (Gh 5 (Gs false (Gm (Gk X 154 [Ga 3,Ga 1])) (.many [7,8]) 3 (some (Gj (Gf (Ga 2) (Ga 8)) [(.Eq,(Gf (Ga 2) (Ga 3)))])) (Gp [Ga 7,Ga 8]))) (Gc (Gr (Gj (Ga 5) [(.Eq,(Gq false []))]) (Gc (Gh 3 (G4 false (Ga 3) (some (Gb (.int 1))) none)) Ge) (Gc (Gu (Gw zQ (Ga 4) [Gf (Gf (Ga 5) (Gb (.int 0))) (Gb (.int 0))])) (Gc (Gh 3 (Gf (Gf (Ga 5) (Gb (.int 0))) (Gb (.int 1)))) Ge))) Ge))
def zit(X:Cx):AS:=(Gc (Gh 2 (Gk X 159 [Ga 0,Ga 1])) (Gc (Gh 3 (Gi zbm false [Ga 0])) (Gc (Gh 4 (Gq true [])) (Gc (A.w2 (Gj (Ga 3) [(.NotEq,(Gp []))]) (ziu X)) (Gc (Gn (Ga 4)) Ge)))))
noncomputable def zjc:List Str:=["group","matches","least","rest","found","good"]
theorem zoc(P:Hl)(X:Cx):cF X (hK P) 245 exs 164 [(121,12)] (List.take 2 zjc) (List.zipIdx zjc)=some (zit X):=by kernel_rfl
theorem zoN:KOf 164 zit [a0,a1] [some a0,some a1,none,none,none,none]:=@kOf _ _ _ _ _ _ _ zoc (λP=>jZ λa0 a1=>by kernel_rfl) rfl rfl
def zo4(X:Cx):AS:=(Gc (Gr (orL [G2 (Gk X 21 [Ga 1]),G2 (Gj (Gb (.int 0)) [(.LtE,(Ga 1)),(.LtE,(Gb (.int 30)))])]) (Gc (A.wX 82) Ge) Ge) (Gc (G5 245 3 (Ga 0) (Ga 1)) (Gc (G5 245 4 (Ga 0) (A.dic [((Gb (.str 0)),(Gq true [])),((Gb (.str 1)),(Gq true []))])) (Gc (G5 245 5 (Ga 0) (Gq true [])) (Gc (G5 245 6 (Ga 0) (Gq true [])) Ge)))))
noncomputable def zp6:List Str:=["self","span"]
theorem zsF(P:Hl)(X:Cx):cF X (hK P) 245 exs 178 [(140,22),(141,22),(139,29),(139,41)] (List.take 2 zp6) (List.zipIdx zp6)=some (zo4 X):=by kernel_rfl
theorem zsW:KOf 178 zo4 [a0,a1] [some a0,some a1]:=@kOf _ _ _ _ _ _ _ zsF (λP=>jZ λa0 a1=>by kernel_rfl) rfl rfl
def zcr(X:Cx):AS:=(Gc (Gn (Gk X 47 [Gf (Gz 245 4 (Ga 0)) (Gb (.str 0)),Gf (Gz 245 4 (Ga 0)) (Gb (.str 1)),Gz 245 3 (Ga 0)])) Ge)
noncomputable def zcO:List Str:=["self"]
theorem zgq(P:Hl)(X:Cx):cF X (hK P) 245 exs 185 [] (List.take 1 zcO) (List.zipIdx zcO)=some (zcr X):=by kernel_rfl
theorem zgO:KOf 185 zcr [a0] [some a0]:=@kOf _ _ _ _ _ _ _ zgq (λP=>km λa0=>by kernel_rfl) rfl rfl
def zo8(X:Cx):AS:=(Gc (G5 245 5 (Ga 0) (Gs true (Gm (Gz 245 5 (Ga 0))) (.one 4) 2 (some (Gj (Gf (Gk X 120 [Ga 4]) (Gb (.int 0))) [(.NotIn,(Ga 1))])) (Ga 4))) (Gc (Gh 2 (Gk X 142 [Gf (Gz 245 4 (Ga 0)) (Gb (.str 0)),Gf (Gz 245 4 (Ga 0)) (Gb (.str 1)),Gz 245 3 (Ga 0),Ga 1])) (Gc (G5 245 5 (Ga 0) (Gg true .Add (Gz 245 5 (Ga 0)) (Gk X 164 [Ga 1,Gs false (Gm (Ga 2)) (.one 4) 2 (some (Gj (Ga 4) [(.NotIn,(Gz 245 6 (Ga 0)))])) (Ga 4)]))) Ge)))
noncomputable def zp9:List Str:=["self","group","some"]
theorem zsI(P:Hl)(X:Cx):cF X (hK P) 245 exs 190 [(147,22),(149,22)] (List.take 2 zp9) (List.zipIdx zp9)=some (zo8 X):=by kernel_rfl
theorem zsZ:KOf 190 zo8 [a0,a1] [some a0,some a1,none]:=@kOf _ _ _ _ _ _ _ zsI (λP=>jZ λa0 a1=>by kernel_rfl) rfl rfl
def zsf(X:Cx):AS:=(Gc (Gr (orL [Gj (Ga 1) [(.NotIn,(Gp [Gb (.str 0),Gb (.str 1)]))],G2 (Gk X 28 [Ga 2,Ga 3])]) (Gc (A.wX 70) Ge) Ge) (Gc (Gh 4 (Gf (Gz 245 4 (Ga 0)) (Ga 1))) (Gc (Gu (Gw zQ (Ga 4) [Gp [Ga 2,Ga 3]])) (Gc (Gh 5 (G0 X 245 none 228 (Ga 0) [Ga 1,Gg false .Sub (Gi jm false [Ga 4]) (Gb (.int 1))])) (Gc (Gr (Gj (Gi jm false [Ga 5]) [(.Gt,(Gb (.int 8)))]) (Gc (Gu (Gw zq8 (Ga 4) [])) (Gc (A.wX 94) Ge)) Ge) (Gc (Gu (G0 X 245 none 190 (Ga 0) [Ga 5])) (Gc (Gn (Gg false .Sub (Gi jm false [Ga 4]) (Gb (.int 1)))) Ge)))))))
noncomputable def zss:List Str:=["self","side","day","cents","row","group"]
theorem zuo(P:Hl)(X:Cx):cF X (hK P) 245 exs 197 [(154,14)] (List.take 4 zss) (List.zipIdx zss)=some (zsf X):=by kernel_rfl
theorem zuG:KOf 197 zsf [a0,a1,a2,a3] [some a0,some a1,some a2,some a3,none,none]:=@kOf _ _ _ _ _ _ _ zuo (λP=>zcU λa0 a1 a2 a3=>by kernel_rfl) rfl rfl
def zfR(X:Cx):AS:=(Gc (Gn (A.w4 X 137 false (Gz 245 5 (Ga 0)))) Ge)
noncomputable def zga:List Str:=["self"]
theorem zmc(P:Hl)(X:Cx):cF X (hK P) 245 exs 211 [] (List.take 1 zga) (List.zipIdx zga)=some (zfR X):=by kernel_rfl
theorem zmG:KOf 211 zfR [a0] [some a0]:=@kOf _ _ _ _ _ _ _ zmc (λP=>km λa0=>by kernel_rfl) rfl rfl
def ziq(X:Cx):AS:=(Gc (Gn (Gi zpq false [Gz 245 6 (Ga 0)])) Ge)
noncomputable def zja:List Str:=["self"]
theorem zoa(P:Hl)(X:Cx):cF X (hK P) 245 exs 218 [] (List.take 1 zja) (List.zipIdx zja)=some (ziq X):=by kernel_rfl
theorem zoL:KOf 218 ziq [a0] [some a0]:=@kOf _ _ _ _ _ _ _ zoa (λP=>km λa0=>by kernel_rfl) rfl rfl
def zmV(X:Cx):AS:=(Gc (Gh 2 (Gg false .Add (Ga 2) (Gk X 120 [Ga 3]))) Ge)
def zo6(X:Cx):AS:=(Gc (Gh 2 (Gq false [])) (Gc (Gv (Gm (Gz 245 5 (Ga 0))) (.one 3) (zmV X)) (Gc (Gn (Gs false (Gm (Gi qs false [Gi jm false [Gf (Gz 245 4 (Ga 0)) (Ga 1)]])) (.one 5) 2 (some (Gj (Gp [Ga 1,Ga 5]) [(.NotIn,(Ga 2))])) (Ga 5))) Ge)))
noncomputable def zp8:List Str:=["self","side","told","match"]
theorem zsH(P:Hl)(X:Cx):cF X (hK P) 245 exs 223 [] (List.take 2 zp8) (List.zipIdx zp8)=some (zo6 X):=by kernel_rfl
theorem zsY:KOf 223 zo6 [a0,a1] [some a0,some a1,none,none]:=@kOf _ _ _ _ _ _ _ zsH (λP=>jZ λa0 a1=>by kernel_rfl) rfl rfl
def zer(X:Cx):AS:=(Gc (Gn (Gf (Gs false (Gm (G0 X 245 none 185 (Ga 0) [])) (.one 4) 2 (some (Gj (Gp [Ga 1,Ga 2]) [(.In,(Ga 4))])) (Ga 4)) (Gb (.int 0)))) Ge)
noncomputable def ze4:List Str:=["self","side","place"]
theorem zjs(P:Hl)(X:Cx):cF X (hK P) 245 exs 228 [] (List.take 3 ze4) (List.zipIdx ze4)=some (zer X):=by kernel_rfl
theorem zjV:KOf 228 zer [a0,a1,a2] [some a0,some a1,some a2]:=@kOf _ _ _ _ _ _ _ zjs (λP=>zbN λa0 a1 a2=>by kernel_rfl) rfl rfl
def zdq(X:Cx):AS:=(Gc (Gr (Gj (Ga 1) [(.NotIn,(Gz 245 5 (Ga 0)))]) (Gc (A.wX 106) Ge) Ge) (Gc (Gu (Gw zgU (Gz 245 5 (Ga 0)) [Ga 1])) (Gc (Gu (Gw zQ (Gz 245 6 (Ga 0)) [Ga 1])) Ge)))
noncomputable def zdG:List Str:=["self","match"]
theorem zhI(P:Hl)(X:Cx):cF X (hK P) 245 exs 235 [] (List.take 2 zdG) (List.zipIdx zdG)=some (zdq X):=by kernel_rfl
theorem zif:KOf 235 zdq [a0,a1] [some a0,some a1]:=@kOf _ _ _ _ _ _ _ zhI (λP=>jZ λa0 a1=>by kernel_rfl) rfl rfl
def zj4(X:Cx):AS:=(Gc (Gu (G0 X 245 none 190 (Ga 0) [Ga 1])) Ge)
def zlr(X:Cx):AS:=(Gc (Gv (Gm (G0 X 245 none 185 (Ga 0) [])) (.one 1) (zj4 X)) Ge)
noncomputable def zlV:List Str:=["self","group"]
theorem zqq(P:Hl)(X:Cx):cF X (hK P) 245 exs 242 [] (List.take 1 zlV) (List.zipIdx zlV)=some (zlr X):=by kernel_rfl
theorem zqU:KOf 242 zlr [a0] [some a0,none]:=@kOf _ _ _ _ _ _ _ zqq (λP=>km λa0=>by kernel_rfl) rfl rfl
def zfQ(X:Cx):AS:=(Gc (Gr (Gj (Ga 1) [(.Lt,(Gi jm false [Ga 0]))]) (Gc (Gn (Gf (Ga 0) (Ga 1))) Ge) Ge) (Gc (Gn (Gb (.int 0))) Ge))
noncomputable def zf9:List Str:=["_law_script","_law_k"]
theorem zmb(P:Hl)(X:Cx):cF X (hK P) 245 exs 256 [] (List.take 2 zf9) (List.zipIdx zf9)=some (zfQ X):=by kernel_rfl
theorem zmF:KOf 256 zfQ [a0,a1] [some a0,some a1]:=@kOf _ _ _ _ _ _ _ zmb (λP=>jZ λa0 a1=>by kernel_rfl) rfl rfl
def zaT(X:Cx):AS:=(Gc (Gr (orL [Gj (Ga 4) [(.Eq,(Gb (.int 0)))],Gj (Gg false .Sub (Gf (Gf (Ga 2) (Ga 4)) (Gb (.int 0))) (Gf (Gf (Ga 2) (Gg false .Sub (Ga 4) (Gb (.int 1)))) (Gb (.int 0)))) [(.Gt,(Ga 1))]]) (Gc (Gh 3 (Gg true .Add (Ga 3) (Gq true [Gq true []]))) Ge) Ge) (Gc (Gu (Gw zQ (Gf (Ga 3) (G3 (Gb (.int 1)))) [Gp [Gf (Gf (Ga 2) (Ga 4)) (Gb (.int 1)),Gf (Gf (Ga 2) (Ga 4)) (Gb (.int 2))]])) Ge))
def zcs(X:Cx):AS:=(Gc (Gh 2 (Gs false (G7 (Gf (Ga 0) (Gb (.str 0)))) (.many [6,7]) 3 none (Gp [Gf (Ga 7) (Gb (.int 0)),Gb (.str 0),Ga 6]))) (Gc (Gh 2 (Gi q6 false [Gg false .Add (Ga 2) (Gs false (G7 (Gf (Ga 0) (Gb (.str 1)))) (.many [6,7]) 3 none (Gp [Gf (Ga 7) (Gb (.int 0)),Gb (.str 1),Ga 6]))])) (Gc (Gh 3 (Gq true [])) (Gc (Gv (Gm (Gi qs false [Gi jm false [Ga 2]])) (.one 4) (zaT X)) (Gc (Gn (Ga 3)) Ge)))))
noncomputable def zcP:List Str:=["_law_own","_law_span","_law_rows","_law_found","_law_k"]
theorem zgr(P:Hl)(X:Cx):cF X (hK P) 245 exs 261 [(198,17),(201,25),(201,38),(201,39)] (List.take 2 zcP) (List.zipIdx zcP)=some (zcs X):=by kernel_rfl
theorem zgP:KOf 261 zcs [a0,a1] [some a0,some a1,none,none,none]:=@kOf _ _ _ _ _ _ _ zgr (λP=>jZ λa0 a1=>by kernel_rfl) rfl rfl
def zab(X:Cx):AS:=(Gc (Gu (Gw zQ (Ga 1) [Gp [Gf (Ga 0) (Ga 2),Gf (Ga 0) (Ga 3),Gf (Ga 0) (Ga 4)]])) Ge)
def zaa(X:Cx):AS:=(Gc (Gu (Gw zQ (Ga 1) [Gp [Gf (Ga 0) (Ga 2),Gf (Ga 0) (Ga 3)]])) (Gc (Gv (Gm (Gi qs false [Gg false .Add (Ga 3) (Gb (.int 1)),Gi jm false [Ga 0]])) (.one 4) (zab X)) Ge))
def k9(X:Cx):AS:=(Gc (Gu (Gw zQ (Ga 1) [Gp [Gf (Ga 0) (Ga 2)]])) (Gc (Gv (Gm (Gi qs false [Gg false .Add (Ga 2) (Gb (.int 1)),Gi jm false [Ga 0]])) (.one 3) (zaa X)) Ge))
def zbF(X:Cx):AS:=(Gc (Gh 1 (Gq true [])) (Gc (Gv (Gm (Gi qs false [Gi jm false [Ga 0]])) (.one 2) (k9 X)) (Gc (Gn (Ga 1)) Ge)))
noncomputable def zbJ:List Str:=["_law_places","_law_found","_law_i","_law_j","_law_k"]
theorem zfc(P:Hl)(X:Cx):cF X (hK P) 245 exs 268 [(205,17)] (List.take 1 zbJ) (List.zipIdx zbJ)=some (zbF X):=by kernel_rfl
theorem zfi:KOf 268 zbF [a0] [some a0,none,none,none,none]:=@kOf _ _ _ _ _ _ _ zfc (λP=>km λa0=>by kernel_rfl) rfl rfl
def zfO(X:Cx):AS:=(Gc (Gr (za2 [orL [Gj (Gi jm false [Ga 6]) [(.Eq,(Gb (.int 1)))],Gj (Gi jm false [Ga 7]) [(.Eq,(Gb (.int 1)))]],Gj (Gp [Ga 6,Ga 7]) [(.NotIn,(Gf (Ga 0) (Gb (.str 18))))]]) (Gc (Gh 8 (Gg false .Add (Gs false (Gm (Ga 6)) (.one 11) 2 none (Gf (Gf (Gf (Ga 0) (Gb (.str 0))) (Ga 11)) (Gb (.int 0)))) (Gs false (Gm (Ga 7)) (.one 11) 2 none (Gf (Gf (Gf (Ga 0) (Gb (.str 1))) (Ga 11)) (Gb (.int 0)))))) (Gc (Gh 9 (Gi zm3 false [Gs false (Gm (Ga 6)) (.one 11) 2 none (Gf (Gf (Gf (Ga 0) (Gb (.str 0))) (Ga 11)) (Gb (.int 1)))])) (Gc (Gr (za2 [Gj (Ga 9) [(.Eq,(Gi zm3 false [Gs false (Gm (Ga 7)) (.one 11) 2 none (Gf (Gf (Gf (Ga 0) (Gb (.str 1))) (Ga 11)) (Gb (.int 1)))]))],Gj (Gg false .Sub (Gi zpr false [Ga 8]) (Gi zki false [Ga 8])) [(.LtE,(Ga 1))]]) (Gc (Gu (Gw zQ (Ga 5) [Gp [Gg false .Add (Gi jm false [Ga 6]) (Gi jm false [Ga 7]),Gp [Ga 6,Ga 7]]])) Ge) Ge) Ge))) Ge) Ge)
def zfN(X:Cx):AS:=(Gc (Gv (Gm (Ga 4)) (.one 7) (zfO X)) Ge)
def zo0(X:Cx):AS:=(Gc (Gh 3 (Gk X 268 [Gi q6 false [Gs false (Gm (Ga 2)) (.one 11) 2 (some (Gj (Gf (Ga 11) (Gb (.int 0))) [(.Eq,(Gb (.str 0)))])) (Gf (Ga 11) (Gb (.int 1)))]])) (Gc (Gh 4 (Gk X 268 [Gi q6 false [Gs false (Gm (Ga 2)) (.one 11) 2 (some (Gj (Gf (Ga 11) (Gb (.int 0))) [(.Eq,(Gb (.str 1)))])) (Gf (Ga 11) (Gb (.int 1)))]])) (Gc (Gh 5 (Gq true [])) (Gc (Gv (Gm (Ga 3)) (.one 6) (zfN X)) (Gc (Gn (Gs false (Gm (Gi q6 false [Ga 5])) (.one 11) 2 none (Gf (Ga 11) (Gb (.int 1))))) Ge)))))
noncomputable def zp3:List Str:=["_law_own","_law_span","_law_group","_law_ones","_law_others","_law_found","_law_one","_law_other","_law_days","_law_total"]
theorem zsC(P:Hl)(X:Cx):cF X (hK P) 245 exs 273 [(216,17)] (List.take 3 zp3) (List.zipIdx zp3)=some (zo0 X):=by kernel_rfl
theorem zsT:KOf 273 zo0 [a0,a1,a2] [some a0,some a1,some a2,none,none,none,none,none,none,none]:=@kOf _ _ _ _ _ _ _ zsC (λP=>zbN λa0 a1 a2=>by kernel_rfl) rfl rfl
def zlt(X:Cx):AS:=(Gc (Gn (Gg false .Add (Gs false (Gm (Gf (Ga 0) (Gb (.int 0)))) (.one 2) 2 none (Gp [Gb (.str 0),Ga 2])) (Gs false (Gm (Gf (Ga 0) (Gb (.int 1)))) (.one 2) 2 none (Gp [Gb (.str 1),Ga 2])))) Ge)
noncomputable def zlX:List Str:=["_law_match"]
theorem zqs(P:Hl)(X:Cx):cF X (hK P) 245 exs 278 [] (List.take 1 zlX) (List.zipIdx zlX)=some (zlt X):=by kernel_rfl
theorem zqW:KOf 278 zlt [a0] [some a0]:=@kOf _ _ _ _ _ _ _ zqs (λP=>km λa0=>by kernel_rfl) rfl rfl
def zj5(X:Cx):AS:=(Gc (Gh 5 (Gk X 278 [Ga 4])) (Gc (Gh 6 (Gi zbm false [Gs false (Gm (Ga 0)) (.one 8) 2 (some (Gj (Ga 8) [(.NotIn,(Ga 5))])) (Ga 8)])) (Gc (Gr (za2 [Gj (Gf (Ga 0) (Gb (.int 0))) [(.In,(Ga 5))],Gj (Gg false .Add (Gi jm false [Ga 6]) (Gi jm false [Ga 5])) [(.Eq,(Gi jm false [Ga 0]))]]) (Gc (Gh 3 (Gi zki false [Ga 3,Gk X 283 [Ga 6,Ga 1,Ga 2]])) Ge) Ge) Ge)))
def zls(X:Cx):AS:=(Gc (Gr (Gj (Ga 0) [(.In,(Ga 2))]) (Gc (Gn (Gf (Ga 2) (Ga 0))) Ge) Ge) (Gc (Gh 3 (Gb (.int 0))) (Gc (Gr (Gj (Ga 0) [(.NotEq,(Gp []))]) (Gc (Gh 3 (Gg false .Add (Gb (.int 1)) (Gk X 283 [G4 false (Ga 0) (some (Gb (.int 1))) none,Ga 1,Ga 2]))) (Gc (Gv (Gm (Ga 1)) (.one 4) (zj5 X)) Ge)) Ge) (Gc (G1 (Ga 3) (Ga 2) (Ga 0)) (Gc (Gn (Ga 3)) Ge)))))
noncomputable def zlW:List Str:=["_law_rest","_law_able_here","_law_known","_law_best","_law_match","_law_marks_here","_law_less"]
theorem zqr(P:Hl)(X:Cx):cF X (hK P) 245 exs 283 [] (List.take 3 zlW) (List.zipIdx zlW)=some (zls X):=by kernel_rfl
theorem zqV:KOf 283 zls [a0,a1,a2] [some a0,some a1,some a2,none,none,none,none]:=@kOf _ _ _ _ _ _ _ zqr (λP=>zbN λa0 a1 a2=>by kernel_rfl) rfl rfl
def zaU(X:Cx):AS:=(Gc (Gh 8 (Gk X 278 [Ga 7])) (Gc (Gh 9 (Gi zbm false [Gs false (Gm (Ga 3)) (.one 13) 2 (some (Gj (Ga 13) [(.NotIn,(Ga 8))])) (Ga 13)])) (Gc (Gh 10 (za2 [Gj (Gf (Ga 3) (Gb (.int 0))) [(.In,(Ga 8))],Gj (Gg false .Add (Gi jm false [Ga 9]) (Gi jm false [Ga 8])) [(.Eq,(Gi jm false [Ga 3]))]])) (Gc (Gr (za2 [Ga 10,Gj (Gk X 283 [Ga 9,Ga 1,Ga 2]) [(.Eq,(Ga 5))]]) (Gc (Gh 6 (Ga 9)) (Gc (Gh 11 (Ga 7)) Ge)) Ge) Ge))))
def zdJ(X:Cx):AS:=(Gc (Gh 5 (Gk X 283 [Ga 3,Ga 1,Ga 2])) (Gc (Gh 6 (G4 false (Ga 3) (some (Gb (.int 1))) none)) (Gc (Gv (A.itR (Ga 1)) (.one 7) (zaU X)) (Gc (Gr (Gj (Gg false .Add (Gi jm false [Ga 6]) (Gb (.int 1))) [(.Lt,(Gi jm false [Ga 3]))]) (Gc (Gu (Gw zQ (Ga 4) [Ga 11])) Ge) Ge) (Gc (Gh 3 (Ga 6)) Ge)))))
def zct(X:Cx):AS:=(Gc (Gh 2 A.dT0) (Gc (Gh 3 (Gi zbm false [Ga 0])) (Gc (Gh 4 (Gq true [])) (Gc (A.w2 (Gj (Ga 3) [(.NotEq,(Gp []))]) (zdJ X)) (Gc (Gn (Ga 4)) Ge)))))
noncomputable def zcQ:List Str:=["_law_group","_law_able_here","_law_known","_law_rest","_law_found","_law_least_here","_law_next_rest","_law_match","_law_marks_here","_law_less","_law_whole","_law_best"]
theorem zgs(P:Hl)(X:Cx):cF X (hK P) 245 exs 288 [(243,17)] (List.take 2 zcQ) (List.zipIdx zcQ)=some (zct X):=by kernel_rfl
theorem zgQ:KOf 288 zct [a0,a1] [some a0,some a1,none,none,none,none,none,none,none,none,none,none]:=@kOf _ _ _ _ _ _ _ zgs (λP=>jZ λa0 a1=>by kernel_rfl) rfl rfl
def zex(X:Cx):AS:=(Gc (Gh 3 (Gs false (Gm (Gf (Ga 0) (Gb (.str 5)))) (.one 5) 2 (some (Gj (Gf (Gk X 278 [Ga 5]) (Gb (.int 0))) [(.NotIn,(Ga 2))])) (Ga 5))) (Gc (G1 (Gg false .Add (Ga 3) (Gk X 288 [Ga 2,Gk X 273 [Ga 0,Ga 1,Ga 2]])) (Ga 0) (Gb (.str 5))) Ge))
noncomputable def ze9:List Str:=["_law_own","_law_span","_law_group","_law_kept"]
theorem zjx(P:Hl)(X:Cx):cF X (hK P) 245 exs 293 [] (List.take 3 ze9) (List.zipIdx ze9)=some (zex X):=by kernel_rfl
theorem zj0:KOf 293 zex [a0,a1,a2] [some a0,some a1,some a2,none]:=@kOf _ _ _ _ _ _ _ zjx (λP=>zbN λa0 a1 a2=>by kernel_rfl) rfl rfl
def zmT(X:Cx):AS:=(Gc (Gu (Gk X 293 [Ga 1,Ga 3,Ga 6])) Ge)
def zc2(X:Cx):AS:=(Gc (Gr (Gj (Gp [Ga 7,Ga 10]) [(.In,(Ga 6))]) (Gc (Gu (Gk X 293 [Ga 1,Ga 3,Ga 6])) Ge) Ge) Ge)
def zo1(X:Cx):AS:=(Gc (Gh 4 (A.w4 X 312 false (Gf (Ga 1) (Gb (.str 5))))) (Gc (Gr (za2 [Gj (Gg false .Mod (Ga 2) (Gb (.int 8))) [(.Eq,(Gb (.int 6)))],Gj (Ga 4) [(.NotEq,(Gq false []))]]) (Gc (Gh 5 (Gf (Ga 4) (Gg false .Mod (Gg false .FloorDiv (Ga 2) (Gb (.int 8))) (Gi jm false [Ga 4])))) (Gc (Gu (Gw zQ (Gf (Ga 1) (Gb (.str 18))) [Ga 5])) (Gc (G1 (Gs false (Gm (Gf (Ga 1) (Gb (.str 5)))) (.one 12) 2 (some (Gj (Ga 12) [(.NotEq,(Ga 5))])) (Ga 12)) (Ga 1) (Gb (.str 5))) (Gc (Gu (G0 X 245 none 235 (Ga 0) [Ga 5])) Ge)))) (Gc (Gr (Gj (Gg false .Mod (Ga 2) (Gb (.int 8))) [(.Eq,(Gb (.int 7)))]) (Gc (Gv (Gm (Gk X 261 [Ga 1,Ga 3])) (.one 6) (zmT X)) (Gc (Gu (G0 X 245 none 242 (Ga 0) [])) Ge)) (Gc (Gr (Gj (Gg false .Mod (Ga 2) (Gb (.int 8))) [(.Lt,(Gb (.int 6)))]) (Gc (Gh 7 (Gf (Gq false [Gb (.str 0),Gb (.str 1)]) (Gg false .Mod (Gg false .FloorDiv (Ga 2) (Gb (.int 8))) (Gb (.int 2))))) (Gc (Gh 8 (Gg false .Add (Gf (Ga 1) (Gb (.str 22))) (Gg false .Mult (Gg false .Mod (Gg false .FloorDiv (Ga 2) (Gb (.int 16))) (Gf (Ga 1) (Gb (.str 20)))) (Gf (Ga 1) (Gb (.str 24)))))) (Gc (Gh 9 (Gp [Ga 8,Gg false .Mult (Gf (Gq false [Gb (.int 1),Gb (.int 2),Gb (.int 3),Gb (.int 4),Gb (.int 5),Gb (.int 7),G3 (Gb (.int 2)),G3 (Gb (.int 3))]) (Gg false .Mod (Gg false .FloorDiv (Ga 2) (Gb (.int 320))) (Gb (.int 8)))) (Gf (Ga 1) (Gb (.str 21)))])) (Gc (Gr (Gj (Gg false .Mod (Gg false .FloorDiv (Ga 2) (Gb (.int 2560))) (Gb (.int 6))) [(.Eq,(Gb (.int 1)))]) (Gc (Gh 9 (Gp [Ga 8,Gg false .Mult (Gg false .Sub (Gg false .Pow (Gb (.int 10)) (Gb (.int 9))) (Gi ztl false [Gf (Ga 9) (Gb (.int 1))])) (Gf (Gq false [Gb (.int 1),G3 (Gb (.int 1))]) (Gi zrh false [Gj (Gf (Ga 9) (Gb (.int 1))) [(.Lt,(Gb (.int 0)))]]))])) Ge) Ge) (Gc (A.vH (Gc (Gh 10 (G0 X 245 none 197 (Ga 0) [Ga 7,Gf (Ga 9) (Gb (.int 0)),Gf (Ga 9) (Gb (.int 1))])) Ge) [94] none (Gc A.vG Ge)) (Gc (Gu (Gw zQ (Gf (Ga 1) (Ga 7)) [Ga 9])) (Gc (Gv (Gm (Gk X 261 [Ga 1,Ga 3])) (.one 6) (zc2 X)) Ge))))))) Ge) Ge)) Ge)) Ge))
noncomputable def zp4:List Str:=["_law_ledger","_law_own","_law_cell","_law_span","_law_ticked","_law_match","_law_group","_law_side","_law_day","_law_entry","_law_place"]
theorem zsD(P:Hl)(X:Cx):cF X (hK P) 245 exs 298 [] (List.take 4 zp4) (List.zipIdx zp4)=some (zo1 X):=by kernel_rfl
theorem zsU:KOf 298 zo1 [a0,a1,a2,a3] [some a0,some a1,some a2,some a3,none,none,none,none,none,none,none]:=@kOf _ _ _ _ _ _ _ zsD (λP=>zcU λa0 a1 a2 a3=>by kernel_rfl) rfl rfl
def zmU(X:Cx):AS:=(Gc (Gu (G0 X 245 none 197 (Ga 0) [Ga 4,Gg false .Add (Ga 3) (Gg false .Mult (Gb (.int 40)) (Ga 5)),Gg false .Add (Gb (.int 1)) (Ga 5)])) (Gc (Gu (Gw zQ (Gf (Ga 1) (Ga 4)) [Gp [Gg false .Add (Ga 3) (Gg false .Mult (Gb (.int 40)) (Ga 5)),Gg false .Add (Gb (.int 1)) (Ga 5)]])) Ge))
def zo5(X:Cx):AS:=(Gc (Gh 3 (Gf (Gq false [Gb (.int 5000),Gb (.int 0)]) (Gi zrh false [Gj (Gf (Ga 1) (Gb (.str 22))) [(.Gt,(Gb (.int 2000)))]]))) (Gc (Gh 4 (Gf (Gq false [Gb (.str 0),Gb (.str 1)]) (Gg false .Mod (Gg false .FloorDiv (Ga 2) (Gb (.int 4))) (Gb (.int 2))))) (Gc (Gv (Gm (Gi qs false [Gf (Gq false [Gb (.int 0),Gb (.int 0),Gb (.int 0),Gg false .Add (Gb (.int 9)) (Gg false .Mod (Gg false .FloorDiv (Ga 2) (Gb (.int 8))) (Gb (.int 5)))]) (Gg false .Mod (Ga 2) (Gb (.int 4)))])) (.one 5) (zmU X)) Ge)))
noncomputable def zp7:List Str:=["_law_ledger","_law_own","_law_cell","_law_first","_law_side","_law_k"]
theorem zsG(P:Hl)(X:Cx):cF X (hK P) 245 exs 305 [] (List.take 3 zp7) (List.zipIdx zp7)=some (zo5 X):=by kernel_rfl
theorem zsX:KOf 305 zo5 [a0,a1,a2] [some a0,some a1,some a2,none,none,none]:=@kOf _ _ _ _ _ _ _ zsG (λP=>zbN λa0 a1 a2=>by kernel_rfl) rfl rfl
def zo9(X:Cx):AS:=(Gc (Gn (Gp [Gg false .Add (Gi jm false [Gf (Ga 0) (Gb (.int 0))]) (Gi jm false [Gf (Ga 0) (Gb (.int 1))]),Ga 0])) Ge)
noncomputable def zqa:List Str:=["_law_match"]
theorem zsJ(P:Hl)(X:Cx):cF X (hK P) 245 exs 312 [] (List.take 1 zqa) (List.zipIdx zqa)=some (zo9 X):=by kernel_rfl
theorem zs0:KOf 312 zo9 [a0] [some a0]:=@kOf _ _ _ _ _ _ _ zsJ (λP=>km λa0=>by kernel_rfl) rfl rfl
def zfm(X:Cx):AS:=(Gc (Gu (Gw zdP (Ga 2) [Gf (Ga 3) (Gw zj3 (Gq true [Gb (.str 0),Gb (.str 1)]) [Ga 1])])) Ge)
def zew(X:Cx):AS:=(Gc (Gh 2 (Gq true [])) (Gc (Gv (Gm (Gf (Ga 0) (Gb (.str 5)))) (.one 3) (zfm X)) (Gc (Gn (Gs false (Gm (Gi qs false [Gi jm false [Gf (Ga 0) (Ga 1)]])) (.one 5) 2 (some (Gj (Ga 5) [(.NotIn,(Ga 2))])) (Ga 5))) Ge)))
noncomputable def ze8:List Str:=["_law_own","_law_side","_law_taken","_law_match"]
theorem zjw(P:Hl)(X:Cx):cF X (hK P) 245 exs 317 [(295,17),(297,37)] (List.take 2 ze8) (List.zipIdx ze8)=some (zew X):=by kernel_rfl
theorem zjZ:KOf 317 zew [a0,a1] [some a0,some a1,none,none]:=@kOf _ _ _ _ _ _ _ zjw (λP=>jZ λa0 a1=>by kernel_rfl) rfl rfl
def zlu(X:Cx):AS:=(Gc (Gr (Gj (Ga 3) [(.Eq,(Gb (.str 17)))]) (Gc (Gh 4 (G0 X 245 (some 17) 211 (Ga 0) [])) (Gc (Gn (za2 [A.isa .list (Ga 4),Gj (Ga 4) [(.Eq,(A.w4 X 312 false (Gf (Ga 1) (Gb (.str 5)))))]])) Ge)) Ge) (Gc (Gr (Gj (Ga 3) [(.Eq,(Gb (.str 18)))]) (Gc (Gn (Gj (G0 X 245 (some 18) 218 (Ga 0) []) [(.Eq,(Gf (Ga 1) (Gb (.str 18))))])) Ge) Ge) (Gc (Gr (Gj (Ga 3) [(.Eq,(Gb (.str 19)))]) (Gc (Gh 5 (Gk X 261 [Ga 1,Ga 2])) (Gc (Gr (Gj (Ga 5) [(.Eq,(Gq false []))]) (Gc (Gn (Gb (.bool true))) Ge) Ge) (Gc (Gh 6 (Gf (Ga 5) (Gg false .Mod (Gi jm false [Gf (Ga 1) (Gb (.str 0))]) (Gi jm false [Ga 5])))) (Gc (Gn (Gj (G0 X 245 none 228 (Ga 0) [Gf (Gf (Ga 6) (Gb (.int 0))) (Gb (.int 0)),Gf (Gf (Ga 6) (Gb (.int 0))) (Gb (.int 1))]) [(.Eq,(Ga 6))])) Ge)))) Ge) (Gc (Gn (Gj (G0 X 245 none 223 (Ga 0) [Ga 3]) [(.Eq,(Gk X 317 [Ga 1,Ga 3]))])) Ge))))
noncomputable def zlY:List Str:=["_law_ledger","_law_own","_law_span","_law_word","_law_found","_law_parted","_law_some"]
theorem zqt(P:Hl)(X:Cx):cF X (hK P) 245 exs 324 [] (List.take 4 zlY) (List.zipIdx zlY)=some (zlu X):=by kernel_rfl
theorem zdO:KOf 324 zlu [a0,a1,a2,a3] [some a0,some a1,some a2,some a3,none,none,none]:=@kOf _ _ _ _ _ _ _ zqt (λP=>zcU λa0 a1 a2 a3=>by kernel_rfl) rfl rfl
def zep(X:Cx):AS:=(Gc (Gr (G2 (Gk X 324 [Ga 0,Ga 1,Ga 2,Gw zq8 (Ga 4) [Gg false .Mod (Ga 3) (Gi jm false [Ga 4])]])) (Gc (Gn (Gb (.bool false))) Ge) Ge) (Gc (Gh 3 (Gg false .FloorDiv (Ga 3) (Gb (.int 5)))) Ge))
def zdn(X:Cx):AS:=(Gc (Gh 4 (Gq true [Gb (.str 17),Gb (.str 18),Gb (.str 0),Gb (.str 1),Gb (.str 19)])) (Gc (Gv (Gm (Gi qs false [Gb (.int 5)])) (.one 5) (zep X)) (Gc (Gn (Gb (.bool true))) Ge)))
noncomputable def zdE:List Str:=["_law_ledger","_law_own","_law_span","_law_way","_law_words","_law_k"]
theorem zhG(P:Hl)(X:Cx):cF X (hK P) 245 exs 331 [(313,17)] (List.take 4 zdE) (List.zipIdx zdE)=some (zdn X):=by kernel_rfl
theorem zid:KOf 331 zdn [a0,a1,a2,a3] [some a0,some a1,some a2,some a3,none,none]:=@kOf _ _ _ _ _ _ _ zhG (λP=>zcU λa0 a1 a2 a3=>by kernel_rfl) rfl rfl
def zis(X:Cx):AS:=(Gc (Gu (Gk X 298 [Ga 3,Ga 2,Ga 5,Ga 1])) (Gc (Gr (G2 (Gk X 331 [Ga 3,Ga 2,Ga 1,Gg false .Add (Gg false .FloorDiv (Ga 5) (Gb (.int 3))) (Gg false .Mult (Gb (.int 11)) (Ga 4))])) (Gc (Gn (Gb (.bool false))) Ge) Ge) Ge))
def zse(X:Cx):AS:=(Gc (Gh 1 (Gg false .Mod (Gk X 256 [Ga 0,Gb (.int 0)]) (Gb (.int 5)))) (Gc (Gr (Gj (Gg false .Mod (Gg false .FloorDiv (Gk X 256 [Ga 0,Gb (.int 0)]) (Gb (.int 5))) (Gb (.int 3))) [(.Eq,(Gb (.int 1)))]) (Gc (Gh 1 (Gg false .Add (Gb (.int 5)) (Gg false .Mod (Gg false .FloorDiv (Gk X 256 [Ga 0,Gb (.int 0)]) (Gb (.int 15))) (Gb (.int 26))))) Ge) Ge) (Gc (Gh 2 (A.dic [((Gb (.str 0)),(Gq true [])),((Gb (.str 1)),(Gq true [])),((Gb (.str 18)),(Gq true [])),((Gb (.str 5)),(Gq false [])),((Gb (.str 20)),(Gf (Gq false [Gb (.int 5),Gb (.int 20)]) (Gg false .Mod (Gk X 256 [Ga 0,Gb (.int 1)]) (Gb (.int 2))))),((Gb (.str 21)),(Gb (.int 1)))])) (Gc (G1 (Gg false .Add (Gb (.int 1)) (Gg false .Mult (Gg false .Mod (Gg false .FloorDiv (Gk X 256 [Ga 0,Gb (.int 1)]) (Gb (.int 2))) (Gb (.int 2))) (Gg false .Mod (Gg false .FloorDiv (Gk X 256 [Ga 0,Gb (.int 1)]) (Gb (.int 4))) (Gg false .Pow (Gb (.int 10)) (Gb (.int 8)))))) (Ga 2) (Gb (.str 21))) (Gc (G1 (Gg false .Mod (Gg false .FloorDiv (Gk X 256 [Ga 0,Gb (.int 0)]) (Gb (.int 390))) (Gb (.int 9943))) (Ga 2) (Gb (.str 22))) (Gc (G1 (Gg false .Add (Gb (.int 1)) (Gg false .Mod (Gk X 256 [Ga 0,Gb (.int 14)]) (Gb (.int 3)))) (Ga 2) (Gb (.str 24))) (Gc (Gh 3 (A.new X 245 178 [Ga 1])) (Gc (Gu (Gk X 305 [Ga 3,Ga 2,Gk X 256 [Ga 0,Gb (.int 13)]])) (Gc (Gv (G7 (G4 false (Ga 0) (some (Gb (.int 2))) (some (Gb (.int 13))))) (.many [4,5]) (zis X)) (Gc (Gn (Gb (.bool true))) Ge))))))))))
noncomputable def zsr:List Str:=["_law_script","_law_span","_law_own","_law_ledger","_law_k","_law_cell"]
theorem zun(P:Hl)(X:Cx):cF X (hK P) 245 exs 338 [(323,24),(323,36),(323,50)] (List.take 1 zsr) (List.zipIdx zsr)=some (zse X):=by kernel_rfl
theorem zuF:KOf 338 zse [a0] [some a0,none,none,none,none,none]:=@kOf _ _ _ _ _ _ _ zun (λP=>km λa0=>by kernel_rfl) rfl rfl
end
section
variable{P:Hl}{X:Cx}{n:Nat}{Q:zl}{Z:XP}{Y:AHeap}
theorem qA{α:Type}{f:α->AV}{xs:List α}{k:Nat}{x:α}(h:xs[k]? = some x):jK (xs.map f) (k:Int)=some (f x):=by rw[atIdx_nat,pZ,h];rfl
theorem jA(G:Gd X (hK P))(hd:n<590){ns:List Int}{k:Nat}(q:Q (.int (ns.getD k 0)) Y):CallOk X 256 ⟨n,false⟩ [.lst (ns.map .int),.int k] Q Z Y:=by
 refine zmF G (fY hd (by decide)) λL=>?_;refine qe (λh=>?_) λh=>?_
 .have h:=H1 h;rw[fC] at h;have hk:k<ns.length:=zzp h;have e:ns[k]? = some (ns.getD k 0):=by rw[fS,fU hk];rfl
  exact ze (qA e) (Ends.same q)
 .have h:=of_decide_eq_false h;rw[fC] at h;have hk:ns.length<=k:=zAp h;rw[fS,fAK hk] at q;exact Ends.same q
abbrev Mt:=List Int×List Int
noncomputable def zu(m:Mt):AV:=.tup [.tup (m.1.map .int),.tup (m.2.map .int)]
noncomputable def zf(m:Mt):List zd:=m.1.map (λk=>(false,k))++m.2.map λk=>(true,k)
theorem zjl(G:Gd X (hK P))(hd:n<590){m:Mt}(q:Q (.tup [.int ((m.1.length:Int)+m.2.length),zu m]) Y):CallOk X 137 ⟨n,false⟩ [zu m] Q Z Y:=by
 refine zmE G (fY hd (by decide)) λL=>?_
 conv=>whnf
 rw[fC,fC];exact Ends.same q
theorem kK(G:Gd X (hK P))(hd:n<590){m:Mt}(h1:m.1.length<=1000)(h2:m.2.length<=1000)(q:Q (.lst ((zf m).map zI)) Y):CallOk X 120 ⟨n,false⟩ [zu m] Q Z Y:=by
 refine zj1 G (fY hd (by decide)) λL=>?_;refine zP (λk=>zI (false,k)) (λ_=>rfl) (λ_ _=>rfl) (λx _ R q=>q) trivial (zcR h1) ?_;refine zP (λk=>zI (true,k)) (λ_=>rfl) (λ_ _=>rfl) (λx _ R q=>q) trivial (zcR h2) ?_;refine zD (by rw[fC,fC];exact zrQ h1 h2) (Ends.same ?_);unfold zf at q;rw[fR,gC,gC] at q;exact q
theorem zbe(G:Gd X (hK P))(hd:n<590){i:Int}(q:Q (.bool true) Y):CallOk X 21 ⟨n,false⟩ [.int i] Q Z Y:=
 zjY G (fY hd (by decide)) λL=>Ends.same q
noncomputable def k7(d c:Int):Bool:=decide (0<=d)&&decide (d<=9999)&&decide (0-1000000000<=c)&&decide (c<=1000000000)&&!decide (c=0)
theorem zia(G:Gd X (hK P))(hd:n<580){i c:Int}(q:Q (.bool (k7 i c)) Y):CallOk X 28 ⟨n,false⟩ [.int i,.int c] Q Z Y:=by
 refine zjX G (fY hd (by decide)) λL=>?_;refine zbe (G.push L) (zje hd) ?_;refine zbe (G.push L) (zje hd) ?_;have fin:∀b,k7 i c=b->Ends Q (.bool b) Y:=λb e=>Ends.same (e▸q);unfold k7 at fin
 repeat' ((conv=>whnf);(refine qe (λ_=>?_) λ_=>?_))
 all_goals (refine fin _ ?_;simp only[*,fC1,Bool.true_and,Bool.and_false,Bool.false_and,fC0,Bool.not_false])
theorem zde(G:Gd X (hK P))(hd:n<590){pb pk:Addr}{es fs:List AV}{m:zd}{k:Nat}{e:AV}(hb:Y pb=some (.list es))(hk:Y pk=some (.list fs))(he:(if m.1 then fs else es)[k]? = some e)(hm:m.2=k)(q:Q e Y) :
  CallOk X 35 ⟨n,false⟩ [.ref pb,.ref pk,zI m] Q Z Y:=by
 obtain⟨b,i⟩:=m;cases hm;refine zjU G (fY hd (by decide)) λL=>?_;cases b with
 | false=>
  refine jv hb (ze (atIdx_nat.trans he) (Ends.same q))
 | true=>
  refine jv hk (ze (atIdx_nat.trans he) (Ends.same q))
theorem zgZ(m:zd):Flat 1 (zI m):=.tup λx hx=>by
 rcases fJ.mp hx with rfl|hx
 .exact .str (by cases m.1<;>decide)
 .rcases fJ.mp hx with rfl|hx
  .exact .int _
  .cases hx
theorem zpg{m m':zd}(h:zI m=zI m'):m=m':=by
 obtain⟨b,i⟩:=m;obtain⟨b',i'⟩:=m';cases b<;>cases b'<;>cases h<;>rfl
theorem zpc{m:zd}{ms:List zd}:zI m∈ms.map zI↔m∈ms:=⟨λh=>by refine zb (fO.mp h) λx h1 h2=>?_;rw[<-zpg h2];exact h1,λh=>gS h⟩
theorem inM{m:zd}{ms:List zd}{c:AV}{R:Bool->AHeap->Prop}(hc:c = .lst (ms.map zI)\/c = .tup (ms.map zI))(q:R (decide (m∈ms)) Y):inG (zI m) c R Y:=by
 refine zh2 hc (zgZ m) (λy hy=>?_) (by decide) (λh=>?_) λh=>?_
 .refine zb (fO.mp hy) λx _ e4_2=>?_;subst e4_2;exact zgZ x
 .rw[zpc] at h;rw[H0 h] at q;exact q
 .rw[zpc] at h;rw[Hz h] at q;exact q
noncomputable def zsm(r ms:List zd):List zd:=r.filter λy=>!decide (y∈ms)
theorem zkX(G:Gd X (hK P))(hd:n<590){r ms:List zd}(hl:r.length<=1000)(q:Q (if ∀y∈ms,y∈r then zC (zsm r ms) else .none) Y) :
  CallOk X 147 ⟨n,false⟩ [zC r,.lst (ms.map zI)] Q Z Y:=by
 refine zmI G (fY hd (by decide)) λL=>?_;refine zfD (β:=Unit) (g:=zI) (λxs _ l Y'=>Y'=Y/\(∃x,l=[some (zC r),some (.lst (ms.map zI)),x])/\(∀y∈ms,y∈xs\/y∈r)/\∀y∈xs,y∈ms) (λb _=>b) ?_ (b:=()) ?_ (zp rfl ⟨_,rfl⟩ (λy hy=>.inl hy) (λy hy=>hy))
 .rintro x xs _ l Y' K ⟨rfl,⟨v,rfl⟩,h1,h2⟩ hK;refine zc _ rfl ?_;refine inM (.inr rfl) ?_
  by_cases hx:x∈r
  .rw[H0 hx];refine⟨trivial,hK _ _ (zp rfl ⟨_,rfl⟩ (λy hy=>?_) (λy hy=>h2 y (fB _ hy)))⟩
   rcases h1 y hy with h|h
   .rcases fJ.mp h with rfl|h
    .exact .inr hx
    .exact .inl h
   .exact .inr h
  .rw[Hz hx];rw[if_neg λh=>hx (h x (h2 x fA))] at q;exact Ends.same q
 .rintro l Y' ⟨rfl,⟨v,rfl⟩,h1,_⟩;rw[if_pos λy hy=>(h1 y hy).resolve_left (by intro h;cases h)] at q;refine zR (g:=zI) (λy=>!decide (y∈ms)) zI (λ_=>rfl) (λ_ _=>rfl) (λx _ R q=>?_) (λx _ _ R q=>q) trivial (zcR hl) ?_
  .exact inM (.inl rfl) q
  .exact Ends.same q
end
section
variable{P:Hl}{X:Cx}{n:Nat}{Q:zl}{Z:XP}{Y:AHeap}
theorem jX{Y:AHeap}{p:Addr}{o o':AO}:(Y.set p o).set p o'=Y.set p o':=by
 funext b
 by_cases h:b=p
 .subst h;rw[AHeap.wA,AHeap.wA]
 .rw[AHeap.wB _ _ h,AHeap.wB _ _ h,AHeap.wB _ _ h]
theorem zL{Y:AHeap}{p:Addr}{o:AO}(h:Y p=none):∀a o',Y a=some o'->Y.set p o a=some o':=λa o' e=>by
 rw[AHeap.wB _ _ (by rintro rfl;rw[h] at e;cases e)];exact e
theorem Ends.vI{p:Addr}{xs:List AV}(h:Y p=none)(q:Q (.lst xs) Y):Ends Q (.ref p) (Y.set p (.list xs)):=.one (zL h) (AHeap.wA ..) h q
noncomputable def jl(r:List zd)(m:Mt):Option (List zd):=match r with
 | []=>none
 | x::t=>if x∈zf m/\∀y∈zf m,y∈x::t then some ((x::t).filter λy=>!decide (y∈zf m)) else none
noncomputable def tk(ms:List Mt)(r:List zd):List (Mt×List zd):=ms.filterMap λm=>(jl r m).map λb=>(m,b)
noncomputable def zry(x:Mt×List zd):AV:=.tup [zu x.1,zC x.2]
def zkc(m:Mt):Prop:=m.1.length<=4/\m.2.length<=4
noncomputable def tk1(r:List zd)(b:List (Mt×List zd))(m:Mt):List (Mt×List zd):=b++((jl r m).map λy=>(m,y)).toList
theorem zrA(r:List zd)(ms:List Mt)(b:List (Mt×List zd)):ms.foldl (tk1 r) b=b++tk ms r:=by
 induction ms generalizing b with
 | nil=>exact(gT b).symm
 | cons m ms ih=>
  rw[pM,ih];unfold tk1 tk;rw[fCJ];cases jl r m with
  | none=>simp
  | some y=>simp
theorem zaO(G:Gd X (hK P))(hd:n<570){x:zd}{t:List zd}{ms:List Mt}(hl:(x::t).length<=1000)(hm:∀m∈ms,zkc m)(hml:ms.length<=100000)(q:Q (.lst ((tk ms (x::t)).map zry)) Y) :
  CallOk X 154 ⟨n,false⟩ [zC (x::t),.lst (ms.map zu)] Q Z Y:=by
 refine zig G (fY hd (by decide)) λL=>?_;intro p hp;refine zw (g:=zu) (λxs b l Y'=>Y'=Y.set p (.list (b.map zry))/\(∃u v w,l=[some (zC (x::t)),some (.lst (ms.map zu)),some (.ref p),u,v,w])/\b.length+xs.length<=100000/\∀y∈xs,zkc y) (tk1 (x::t)) ?_ (b:=[]) ?_ (zp rfl (jk _ _ _ rfl) (by simpa using hml) hm)
 .intro m xs b l Y' K S_ hR1;refine zB hR1 λe0_0 h0_1 h1 h2=>?_;subst e0_0;obtain⟨u,v,w,rfl⟩:=h0_1;intro hK;refine zc _ rfl ?_;have hmo:=h2 m fA;refine kK (G.push L) (zrK hd) (by have:=hmo.1;exact znJ this) (by have:=hmo.2;exact znJ this) ?_;refine inM (.inl rfl) ?_;have hle:(tk1 (x::t) b m).length+xs.length<=100000:=by
   unfold tk1;cases jl (x::t) m<;>simp<;>(first|exact zzz h1|exact zzx h1)
  have hK:=λu v w=>hK _ _ (zp rfl (jk u v w rfl) hle (λy hy=>h2 y (fB _ hy)));have hlo:jl (x::t) m=if x∈zf m/\∀y∈zf m,y∈x::t then some (zsm (x::t) (zf m)) else none:=rfl
  refine qe (λh=>?_) λh=>?_
  .have h:=H1 h;refine zkX (G.push L) (zrK hd) hl ?_
   by_cases hy:∀y∈zf m,y∈x::t
   .rw[if_pos hy];rw[if_pos ⟨h,hy⟩] at hlo;refine zk (AHeap.wA ..) ?_;refine zk (AHeap.wA ..) ?_;refine zD (by rw[fC];exact zzy h1) ?_;refine⟨trivial,?_⟩;rw[jX];unfold tk1 at hK;rw[hlo,Option.map_some,Option.toList_some,fR] at hK;exact hK _ _ _
   .rw[if_neg hy];rw[if_neg λh=>hy h.2] at hlo;unfold tk1 at hK;rw[hlo,Option.map_none,Option.toList_none,gT] at hK;exact⟨trivial,hK _ _ _⟩
  .have h:=of_decide_eq_false h;rw[if_neg λq=>h q.1] at hlo;unfold tk1 at hK;rw[hlo,Option.map_none,Option.toList_none,gT] at hK;exact⟨trivial,hK _ _ _⟩
 .intro l Y' hR2;refine zB hR2 λe1_0 h1_1 _ _=>?_;subst e1_0;obtain⟨u,v,w,rfl⟩:=h1_1;rw[zrA,fAH];exact Ends.vI hp q
end
section
variable{P:Hl}{X:Cx}{n:Nat}{Q:zl}{Z:XP}{Y:AHeap}
theorem zg7{α:Type}{f:α->AV}{u:AV->α}(hu:∀x,u (f x)=x){ys:List AV}{xs:List α}(h:ys.Perm (xs.map f)):(ys.map u).Perm xs/\ys=(ys.map u).map f:=by
 have h1:(ys.map u).Perm ((xs.map f).map u):=h.map u;rw[gC] at h1;have h2:xs.map (u∘f)=xs:=by
  have:u∘f=id:=funext hu;rw[this,fBY]
 rw[h2] at h1;refine⟨h1,?_⟩;rw[gC];refine(fBY ys).symm.trans (pK λy hy=>?_);refine zb (fO.mp (h.mem_iff.mp hy)) λx _ e0_2=>?_;subst e0_2;show f x=f (u (f x));rw[hu]
noncomputable def srt{α:Type}(V:α->Nat)(xs:List α):List α:=xs.mergeSort λa b=>decide (V a<=V b)
theorem zX{α:Type}(V:α->Nat)(xs:List α):(srt V xs).Perm xs:=List.mergeSort_perm xs _
theorem zeY{α:Type}(V:α->Nat)(xs:List α):(srt V xs).Pairwise λa b=>V a<=V b:=by
 have h:=List.pairwise_mergeSort (le:=λa b=>decide (V a<=V b)) (λa b c h1 h2=>H0 (fE (H1 h1) (H1 h2))) (λa b=>by
  rcases Nat.le_total (V a) (V b) with h|h
  .rw[H0 h];rfl
  .rw[H0 h,Bool.or_true]) xs
 exact h.imp λh=>H1 h
theorem zeZ{α:Type}{V:α->Nat}{xs ys:List α}(hi:∀x∈xs,∀y∈xs,V x=V y->x=y)(h1:ys.Perm xs)(h2:ys.Pairwise λa b=>V a<=V b):ys=srt V xs:=
 List.Perm.eq_of_pairwise (λa b ha hb h1' h2'=>hi a (h1.mem_iff.mp ha) b ((zX V xs).mem_iff.mp hb) (fBG h1' h2')) h2 (zeY V xs) (h1.trans (zX V xs).symm)
theorem zcK{α:Type}{f:α->AV}{r:Bool}(u:AV->α)(hu:∀x,u (f x)=x){xs:List α}(V:α->Nat)(hi:∀x∈xs,∀y∈xs,V x=V y->x=y)(hk:zdX (xs.map f))(hlt:∀x∈xs,∀y∈xs,zdY Y (f x) (f y) (decide (V x<V y)))
  (q:mkL r ((srt V xs).map f) Q Y):zf4 r (xs.map f) Q Y:=by
 unfold zf4;refine zr (λv=>V (u v)) hk (λa ha b hb=>?_) (λys h1 h2=>?_)
 .refine zb (fO.mp ha) λx hx e1_2=>?_;subst e1_2;refine zb (fO.mp hb) λy hy e2_2=>?_;subst e2_2;simp only[hu];exact hlt x hx y hy
 .obtain⟨p1,p2⟩:=zg7 hu h1;rw[p2,zeZ hi p1 (fA4.mpr h2)];exact q
noncomputable abbrev Ent:=Int×Int
noncomputable def zz(e:Ent):AV:=.tup [.int e.1,.int e.2]
noncomputable abbrev Tr:=Int×zd
noncomputable def zaY(t:Tr):AV:=.tup [.int t.1,.str t.2.1.toNat,.int t.2.2]
noncomputable def ztx(v:AV):Tr:=match v with
 | .tup [.int d,.str s,.int k]=>(d,(Nat.beq s 1,k))
 | _=>(0,(false,0))
theorem zsq(t:Tr):ztx (zaY t)=t:=by
 obtain⟨d,b,k⟩:=t;cases b<;>rfl
noncomputable def zaL(t:Tr):Nat:=(t.1.toNat*2+t.2.1.toNat)*1000000+t.2.2.toNat
structure TrOk(t:Tr):Prop where
 day:0<=t.1
 lo:0<=t.2.2
 hi:t.2.2<1000000
theorem zaE{M x y k k':Nat}(h:k<M)(h':k'<M)(e:x*M+k=y*M+k'):x=y/\k=k':=by
 have e1:x=y:=by
  rcases fB3 x y with hl|hl|hl
  .exact absurd e (fAO (pI (fA7 h _) (fE (fBP x M▸gM M hl) (fAC ..))))
  .exact hl
  .exact absurd e (fC8 (pI (fA7 h' _) (fE (fBP y M▸gM M hl) (fAC ..))))
 subst e1;exact⟨rfl,Nat.add_left_cancel e⟩
theorem zbh{M x y k k':Nat}(h:k<M)(h':k'<M):x*M+k<y*M+k'↔x<y\/x=y/\k<k':=by
 constructor
 .intro e
  rcases fB3 x y with hl|hl|hl
  .exact .inl hl
  .subst hl;exact .inr ⟨rfl,Nat.lt_of_add_lt_add_left e⟩
  .exact absurd e (Nat.not_lt_of_ge (fBA (pI (fA7 h' _) (fE (fBP y M▸gM M hl) (fAC ..)))))
 .rintro(hl|⟨rfl,hl⟩)
  .exact pI (fA7 h _) (fE (fBP x M▸gM M hl) (fAC ..))
  .exact fA7 hl _
theorem qk{k:Int}(h:k<1000000):k.toNat<1000000:=y33 h
theorem zap{a b:Int}(ha:0<=a)(hb:0<=b)(e:a.toNat=b.toNat):a=b:=by rw[<-fAV ha,e,fAV hb]
theorem zaq{a b:Int}(ha:0<=a)(hb:0<=b):a.toNat<b.toNat↔a<b:=by rw[Int.lt_toNat,fAV ha]
theorem zeP{t u:Tr}(ht:TrOk t)(hu:TrOk u)(h:zaL t=zaL u):t=u:=by
 obtain⟨d,b,k⟩:=t;obtain⟨d',b',k'⟩:=u;obtain⟨h1,h2⟩:=zaE (qk ht.hi) (qk hu.hi) h;obtain⟨h3,h4⟩:=zaE (pH (fA6 b)) (pH (fA6 b')) h1;have e1:d=d':=zap ht.day hu.day h3;have e2:k=k':=zap ht.lo hu.lo h2;subst e1 e2;cases b<;>cases b'<;>first|rfl|cases h4
theorem zof(a c:Int)(b:Str):(PyData.tuple [.int a,.str b,.int c]).depth<=100:=by simp only[PyData.depth,PyData.depthAll];decide
theorem zlP:∀c:Bool,PyData.eqv (.str (zy c.toNat)) (.str (zy (!c).toNat))=false:=by decide +kernel
theorem ziQ:∀c:Bool,ltD (.str (zy c.toNat)) (.str (zy (!c).toNat))=some (!c):=by
 intro c;cases c<;>decide +kernel
theorem zgv{p q:Prop}[Decidable p][Decidable q](h:p↔q):some (decide p)=some (decide q):=congrArg some (decide_eq_decide.mpr h)
theorem zso{t u:Tr}(ht:TrOk t)(hu:TrOk u):zdY Y (zaY t) (zaY u) (decide (zaL t<zaL u)):=by
 obtain⟨d,b,k⟩:=t;obtain⟨d',b',k'⟩:=u;refine jw _ _ (.tup (.cons (.int _) (.cons (.str _) (.cons (.int _) .nil)))) (.tup (.cons (.int _) (.cons (.str _) (.cons (.int _) .nil)))) (zof ..) (zof ..) ?_;have hd:=zaq ht.day hu.day;have hk:=zaq ht.lo hu.lo;have key:zaL (d,b,k)<zaL (d',b',k')↔d<d'\/d=d'/\(b.toNat<b'.toNat\/b.toNat=b'.toNat/\k<k'):=by
  unfold zaL;dsimp only at hd hk ⊢;rw[zbh (qk ht.hi) (qk hu.hi),zbh (pH (fA6 b)) (pH (fA6 b')),hd,hk];constructor
  .rintro((h|⟨h1,h2⟩)|⟨h1,h2⟩)
   .exact .inl h
   .exact .inr ⟨zap ht.day hu.day h1,.inl h2⟩
   .obtain⟨h3,h4⟩:=zaE (pH (fA6 b)) (pH (fA6 b')) h1;exact .inr ⟨zap ht.day hu.day h3,.inr ⟨h4,h2⟩⟩
  .rintro(h|⟨rfl,h|⟨h1,h2⟩⟩)
   .exact .inl (.inl h)
   .exact .inl (.inr ⟨rfl,h⟩)
   .exact .inr ⟨by rw[h1],h2⟩
 rw[zeo,qY]
 by_cases e:d=d'
 .subst e;rw[if_pos (by simp only[PyData.eqv,BEq.rfl]),qY];have key:zaL (d,b,k)<zaL (d,b',k')↔(b.toNat<b'.toNat\/b.toNat=b'.toNat/\k<k'):=key.trans ⟨λh=>(h.resolve_left (fBS d)).2,λh=>.inr ⟨rfl,h⟩⟩;have same:∀c:Bool,(if PyData.eqv (.str (zy c.toNat)) (.str (zy c.toNat)) then zbV [.int k] [.int k'] else ltD (.str (zy c.toNat)) (.str (zy c.toNat)))=some (decide (k<k')):=λc=>by
   rw[if_pos (by simp only[PyData.eqv,BEq.rfl]),qY]
   by_cases ek:k=k'
   .subst ek;rw[if_pos (by simp only[PyData.eqv,BEq.rfl]),zgT,Hz (fBS k)]
   .rw[if_neg (by simpa only[PyData.eqv,beq_iff_eq] using ek),zdm]
  cases b<;>cases b'
  .exact(same false).trans (zgv (key.trans ⟨λh=>(h.resolve_left (fBR 0)).2,λh=>.inr ⟨rfl,h⟩⟩).symm)
  .refine Eq.trans ?_ (congrArg some (H0 (key.mpr (.inl Nat.zero_lt_one))).symm);exact(if_neg (ne_true_of_eq_false (zlP false))).trans (ziQ false)
  .refine Eq.trans ?_ (congrArg some (Hz λh=>(key.mp h).elim (fBT _) λh=>nomatch h.1).symm);exact(if_neg (ne_true_of_eq_false (zlP true))).trans (ziQ true)
  .exact(same true).trans (zgv (key.trans ⟨λh=>(h.resolve_left (fBR 1)).2,λh=>.inr ⟨rfl,h⟩⟩).symm)
 .rw[if_neg (by simpa only[PyData.eqv,beq_iff_eq] using e),zdm];exact zgv (key.trans ⟨λh=>h.resolve_right λh=>e h.1,.inl⟩).symm
noncomputable def kH(s:Bool)(es:List Ent):List Tr:=(List.range es.length).map λi=>((es.getD i (0,0)).1,(s,(i:Int)))
noncomputable def zbA(es fs:List Ent):List Tr:=kH false es++kH true fs
noncomputable def inO(es fs:List Ent):List Tr:=srt zaL (zbA es fs)
structure EsOk(es:List Ent):Prop where
 day:∀e∈es,0<=e.1/\e.1<=9999
 cents:∀e∈es,e.2.natAbs<=1000000000
 len:es.length<=1000
theorem getD_mem{α:Type}{l:List α}{k:Nat}{d:α}(h:k<l.length):l.getD k d∈l:=by
 rw[fS,fU h];exact fA8 h
theorem ju{α:Type}{l:List α}{k:Nat}{d:α}(h:k<l.length):l[k]? = some (l.getD k d):=by
 rw[fS,fU h];rfl
theorem jJ{es fs:List Ent}(he:EsOk es)(hf:EsOk fs){t:Tr}(h:t∈zbA es fs):TrOk t/\∃k:Nat,t.2.2=k/\k<(if t.2.1 then fs else es).length/\((if t.2.1 then fs else es).getD k (0,0)).1=t.1:=by
 rcases fT.mp h with h|h<;>obtain⟨i,hi,rfl⟩:=fO.mp h<;>have hi:=pR.mp hi
 .have:=he.len;exact zgG ⟨(he.day _ (getD_mem hi)).1,fAZ i,by show (i:Int)<1000000;exact zwk hi this⟩ i rfl hi rfl
 .have:=hf.len;exact zgG ⟨(hf.day _ (getD_mem hi)).1,fAZ i,by show (i:Int)<1000000;exact zwk hi this⟩ i rfl hi rfl
theorem znV(es fs:List Ent):(zbA es fs).length=es.length+fs.length:=by unfold zbA kH;simp
theorem inO_mem{es fs:List Ent}{t:Tr}:t∈inO es fs↔t∈zbA es fs:=(zX ..).mem_iff
theorem zax(es fs:List Ent):(inO es fs).length=es.length+fs.length:=by rw[<-znV];exact(zX ..).length_eq
theorem zh5(G:Gd X (hK P))(hd:n<590){pb pk:Addr}{es fs:List Ent}(hb:Y pb=some (.list (es.map zz)))(hk:Y pk=some (.list (fs.map zz)))(he:EsOk es)(hf:EsOk fs)(q:Q (.lst ((inO es fs).map λt=>zI t.2)) Y) :
  CallOk X 40 ⟨n,false⟩ [.ref pb,.ref pk] Q Z Y:=by
 refine zjW G (fY hd (by decide)) λL=>?_;have l1:=he.len;have l2:=hf.len;refine ze (zA hb) ?_;rw[fC];refine zcA (zcR l1) ?_;refine zP (λi=>zaY ((es.getD i (0,0)).1,(false,(i:Int)))) (λ_=>rfl) (λ_ _=>rfl) (λi hi R q=>?_) trivial (by rw[gN];exact zcR l1) ?_
 .refine jv hb (ze (qA (ju (d:=(0,0)) (pR.mp hi))) ?_);exact q
 refine ze (zA hk) ?_;rw[fC];refine zcA (zcR l2) ?_;refine zP (λi=>zaY ((fs.getD i (0,0)).1,(true,(i:Int)))) (λ_=>rfl) (λ_ _=>rfl) (λi hi R q=>?_) trivial (by rw[gN];exact zcR l2) ?_
 .refine jv hk (ze (qA (ju (d:=(0,0)) (pR.mp hi))) ?_);exact q
 refine zD (by rw[fC,fC,gN,gN];exact zrQ l1 l2) ?_;have e:((List.range es.length).map λi=>zaY ((es.getD i (0,0)).1,(false,(i:Int))))++((List.range fs.length).map λi=>zaY ((fs.getD i (0,0)).1,(true,(i:Int))))=(zbA es fs).map zaY:=by
  unfold zbA kH;rw[fR,gC,gC];rfl
 rw[e];refine zcK ztx zsq zaL (λx hx y hy=>zeP (jJ he hf hx).1 (jJ he hf hy).1) (.inl λx hx=>?_) (λx hx y hy=>zso (jJ he hf hx).1 (jJ he hf hy).1) ?_
 .refine zb (fO.mp hx) λt _ e13_2=>?_;subst e13_2;exact jy _ _ rfl
 refine zP (λt=>zI t.2) (λ_=>rfl) (λ_ _=>rfl) (λt ht R q=>q) trivial (by have:=zax es fs;unfold inO at this;exact zBB l1 l2 this) ?_;exact Ends.same q
end
section
variable{P:Hl}{X:Cx}{n:Nat}{Q:zl}{Z:XP}{Y:AHeap}
inductive Hold(Y:AHeap):List Addr->List (List AV)->Prop
 | nil:Hold Y [] []
 | cons {r:Addr} {rs:List Addr} {g:List AV} {gs:List (List AV)}:Y r=some (.list g)->Hold Y rs gs->Hold Y (r::rs) (g::gs)
theorem Hold.set{p:Addr}{o:AO}{rs gs}(h:Hold Y rs gs)(hp:p∉rs):Hold (Y.set p o) rs gs:=by
 induction h with
 | nil=>exact .nil
 | cons h r ih=>exact .cons (by rw[AHeap.wB _ _ (λe=>hp (by rw[e];exact fA))];exact h) (ih λq=>hp (fB _ q))
theorem Hold.snoc{p:Addr}{g:List AV}(hp:Y p=some (.list g)){rs gs}(h:Hold Y rs gs):Hold Y (rs++[p]) (gs++[g]):=by
 induction h with
 | nil=>exact .cons hp .nil
 | cons h r ih=>exact .cons h ih
theorem Hold.unsnoc{gs:List (List AV)}{g:List AV}{rs:List Addr}(h:Hold Y rs (gs++[g])):∃rs' r,rs=rs'++[r]/\Hold Y rs' gs/\Y r=some (.list g):=by
 induction gs generalizing rs with
 | nil=>cases h with|cons h r=>cases r;exact⟨[],_,rfl,.nil,h⟩
 | cons g' gs ih=>
  cases h with
  | cons h r=>
   refine zm (ih r) λrs' q e h1 h2=>?_;exact zN (_::rs') q (by rw[e];rfl) (.cons h h1) h2
theorem Hold.at_{rs:List Addr}{gs:List (List AV)}(h:Hold Y rs gs){a:Addr}{g:List AV}(e:(rs.zip gs).lookup a=some g):a∈rs/\Y a=some (.list g):=by
 induction h with
 | nil=>cases e
 | @cons r rs g' gs h hr ih=>
  rw[fCO,pG] at e;split at e
  .rename_i e';obtain rfl:=Hy e;rw[H3 e'];exact⟨fA,h⟩
  .exact⟨fB _ (ih e).1,(ih e).2⟩
theorem zoq{φ:Addr->Option (List AV)}(l:List AV):FzL φ l l:=by
 induction l with
 | nil=>exact .nil
 | cons x l ih=>exact .cons (.same x) ih
theorem Ends.lists{Y':AHeap}{p:Addr}{rs:List Addr}{gs:List (List AV)}(hs:∀a o,Y a=some o->Y' a=some o)(hp:Y' p=some (.list (rs.map .ref)))(h:Hold Y' rs gs)(nd:(p::rs).Nodup)(hn:∀a∈p::rs,Y a=none)(q:Q (.lst (gs.map .lst)) Y):Ends Q (.ref p) Y':=by
 have nd':=fQ.mp nd;unfold Ends;refine ky (λa=>if a=p then some (gs.map .lst) else (rs.zip gs).lookup a) Y _ ⟨λa ys e=>?_,hs⟩ (.lst (if_pos rfl)) q;split at e
 .rename_i e';subst e';cases e
  refine kP (hn _ fA) _ hp ?_;have gen:∀(φ:Addr->Option (List AV)) (rs:List Addr) (gs:List (List AV)),rs.length=gs.length->(∀r g,(r,g)∈rs.zip gs->φ r=some g)->FzL φ (rs.map .ref) (gs.map .lst):=λφ rs=>by
   induction rs with
   | nil=>intro gs hl _;cases gs with
    | nil=>exact .nil
    | cons _ _=>cases hl
   | cons r rs ih=>intro gs hl hφ;cases gs with
    | nil=>cases hl
    | cons g gs=>exact .cons (.lst (hφ r g fA)) (ih gs (Nat.succ.inj hl) λr g h=>hφ r g (fB _ h))
  have hl:rs.length=gs.length:=by clear hp nd nd' hn q;induction h with
   | nil=>rfl
   | cons _ _ ih=>rw[fH,fH,ih]
  refine gen _ rs gs hl λr g hrg=>?_;have hr:r∈rs:=(fCH hrg).1;rw[if_neg (λe:r=a=>nd'.1 (e▸hr))];clear hp hn nd h q hr;have nd:=nd'.2;clear nd'
  induction rs generalizing gs with
  | nil=>cases hrg
  | cons r' rs ih=>
   cases gs with
   | nil=>cases hl
   | cons g' gs=>
    have nd:=fQ.mp nd;rw[fCO,pG]
    rcases fJ.mp hrg with e|hrg
    .cases e;rw[BEq.rfl]
    .have hne:(r==r')=false:=beq_eq_false_iff_ne.mpr λe=>nd.1 (e▸(fCH hrg).1);rw[hne];exact ih (Nat.succ.inj hl) hrg nd.2
 .obtain⟨h1,h2⟩:=h.at_ e;exact kP (hn _ (fB _ h1)) _ h2 (zoq _)
theorem zgk(xs:List AV)(x:AV):jK (xs++[x]) (-1)=some x:=by
 unfold jK;rw[if_neg (by decide),fF,fV,if_pos zzd];have:(-1+((xs.length+1:Nat):Int)).toNat=xs.length:=zzg;rw[this,pN (fN _),fB0];rfl
noncomputable def zbG(span:Int)(l:Option Int)(d:Int):Bool:=match l with
 | none=>true
 | some l=>decide (d>l+span)
noncomputable def zY(gs:List (List zd))(m:zd):List (List zd):=match gs.getLast? with
 | none=>gs
 | some g=>gs.dropLast++[g++[m]]
theorem jS(gs:List (List zd))(g:List zd)(m:zd):zY (gs++[g]) m=gs++[g++[m]]:=by unfold zY;simp
noncomputable def qf(span:Int)(b:List (List zd)×Option Int)(t:Tr):List (List zd)×Option Int:=(zY (if zbG span b.2 t.1 then b.1++[[]] else b.1) t.2,some t.1)
noncomputable def grps(es fs:List Ent)(span:Int):List (List zd):=((inO es fs).foldl (qf span) ([],none)).1
noncomputable def zoP(l:Option Int):AV:=match l with
 | none=>.none
 | some i=>.int i
noncomputable def gAV(g:List zd):AV:=.lst (g.map zI)
structure GrpAt(Y Y':AHeap)(p:Addr)(gs:List (List zd)):Prop where
 ex:∃rs:List Addr,Y' p=some (.list (rs.map .ref))/\Hold Y' rs (gs.map λg=>g.map zI)/\(p::rs).Nodup/\∀a∈p::rs,Y a=none
 sub:∀a o,Y a=some o->Y' a=some o
theorem zh1{rs:List Addr}{gs:List (List AV)}(h:Hold Y rs gs):rs.length=gs.length:=by
 induction h with
 | nil=>rfl
 | cons _ _ ih=>rw[fH,fH,ih]
theorem Hold.some{rs:List Addr}{gs:List (List AV)}(h:Hold Y rs gs){r:Addr}(hr:r∈rs):Y r≠none:=by
 induction h with
 | nil=>cases hr
 | cons h' _ ih=>
  rcases fJ.mp hr with rfl|hr
  .rw[h'];exact λe=>nomatch e
  .exact ih hr
theorem GrpAt.vO{Y':AHeap}{p r:Addr}{rs:List Addr}{gs:List (List zd)}(h1:Y' p=some (.list (rs.map .ref)))(h2:Hold Y' rs (gs.map λg=>g.map zI))(h3:(p::rs).Nodup)(h4:∀a∈p::rs,Y a=none)(hs:∀a o,Y a=some o->Y' a=some o)(hr:Y' r=none) :
  GrpAt Y ((Y'.set r (.list [])).set p (.list (rs.map .ref++[.ref r]))) p (gs++[[]]):=by
 have hrp:r≠p:=by rintro rfl;rw[h1] at hr;exact absurd hr (fP _)
 have hrs:r∉rs:=λh=>h2.some h hr;have hrσ:Y r=none:=by
  cases e:Y r with
  | none=>rfl
  | some o=>rw[hs r o e] at hr;exact absurd hr (fP _)
 have nd:=fQ.mp h3;refine⟨(qm (rs++[r]) ?_ ?_ ?_ ?_),λa o e=>?_⟩
 .rw[AHeap.wA,fR];rfl
 .rw[fR];exact Hold.snoc (by rw[AHeap.wB _ _ hrp];exact AHeap.wA ..) ((h2.set hrs).set nd.1)
 .refine fQ.mpr ⟨λh=>?_,gR.mpr (zo nd.2 (fQ.mpr ⟨gD,.nil⟩) (λa ha b hb e=>?_))⟩
  .rcases fT.mp h with h|h
   .exact nd.1 h
   .exact hrp (fG.mp h).symm
  .rw[fG.mp hb] at e;exact hrs (e▸ha)
 .intro a ha
  rcases fJ.mp ha with rfl|ha
  .exact h4 _ fA
  .rcases fT.mp ha with ha|ha
   .exact h4 _ (fB _ ha)
   .rw[fG.mp ha];exact hrσ
 .rw[AHeap.wB _ _ (by rintro rfl;rw[h4 _ fA] at e;cases e),AHeap.wB _ _ (by rintro rfl;rw[hrσ] at e;cases e)];exact hs a o e
theorem GrpAt.last{Y':AHeap}{p:Addr}{gs:List (List zd)}(h:GrpAt Y Y' p gs)(hne:gs≠[]):∃xs r g,Y' p=some (.list (xs++[.ref r]))/\Y' r=some (.list (g.map zI))/\g∈gs/\∀m,GrpAt Y (Y'.set r (.list (g.map zI++[zI m]))) p (zY gs m):=by
 obtain⟨⟨rs,h1,h2,h3,h4⟩,hs⟩:=h;obtain⟨g0,g,rfl⟩:∃g0 g,gs=g0++[g]:=(jy _ _ ((fAU hne).symm))
 rw[fR] at h2;refine zm h2.unsnoc λrs' r e2_2 hr1 hr2=>?_;subst e2_2;have nd:=fQ.mp h3;have hpr:r≠p:=λe=>nd.1 (by rw[e];simp);have hrr:r∉rs':=λh=>(gR.mp nd.2).2.2 r h r fA rfl;rw[fR] at h1;refine jV (rs'.map .ref) r g h1 hr2 (gH _ fA) (λm=>?_);rw[jS];refine⟨(qm (rs'++[r]) ?_ ?_ h3 h4),λa o e=>?_⟩
 .rw[AHeap.wB _ _ (Ne.symm hpr),fR];exact h1
 .have e:(g0++[g++[m]]).map (λg=>g.map zI)=g0.map (λg=>g.map zI)++[(g++[m]).map zI]:=fR ..;rw[e];exact(hr1.set hrr).snoc (by rw[AHeap.wA,fR];rfl)
 .rw[AHeap.wB _ _ (by rintro rfl;rw[h4 a (by simp)] at e;cases e)];exact hs a o e
theorem zrq{α:Type}{l:List α}(h:l≠[]):∃a b,l=a++[b]:=jy _ _ (fAU h).symm
theorem zhA{gs:List (List zd)}(h:gs≠[]){m:zd}{k:Nat}(h1:gs.length<=k)(h2:∀g∈gs,g.length<k):zY gs m≠[]/\(zY gs m).length<=k/\∀g∈zY gs m,g.length<=k:=by
 refine z9 (zrq h) λg0 g e=>?_;subst e;rw[jS];refine⟨fBW _ (λe=>nomatch e),by rw[fF] at h1 ⊢;exact h1,λz hz=>(fT.mp hz).elim (λh=>fBA (h2 z (pB _ h))) λh=>?_⟩;rw[fG.mp h,fF];exact h2 g (gH _ fA)
theorem ziF{gs:List (List zd)}{k:Nat}(h1:gs.length<=k)(h2:∀g∈gs,g.length<=k):gs++[[]]≠[]/\(gs++[[]]).length<=k+1/\∀g∈gs++[[]],g.length<k+1:=
 ⟨fBW _ (λe=>nomatch e),by rw[fF];exact gW h1,λz hz=>(fT.mp hz).elim (λh=>pH (h2 z h)) λh=>by rw[fG.mp h];exact Nat.succ_pos k⟩
noncomputable def gsL(pb pk:Addr)(span:Int)(p:Addr)(a:AV)(u v:Option AV):Loc:=[some (.ref pb),some (.ref pk),some (.int span),some (.ref p),some a,u,v]
structure GsI(Y:AHeap)(es fs:List Ent)(span:Int)(pb pk p:Addr)(xs:List Tr)(b:List (List zd)×Option Int)(l:Loc)(Y':AHeap):Prop where
 gr:GrpAt Y Y' p b.1
 ne:b.2=none\/b.1≠[]
 hl:∃u v,l=gsL pb pk span p (zoP b.2) u v
 few:∃j,j+xs.length<=100000/\b.1.length<=j/\∀g∈b.1,g.length<=j
 hx:∀t∈xs,t∈zbA es fs
section
variable{es fs:List Ent}{span:Int}{pb pk p:Addr}{t:Tr}{xs:List Tr}{I:AHeap->Prop}{K:Loc->AHeap->Prop}{S:zT}
theorem zlj{d:Dp}{gs:List (List zd)}{a:AV}{j:Nat}{Y':AHeap}(hI:∀Y,I Y)(h:GrpAt Y Y' p gs)(hne:gs≠[])(hj:j+xs.length<=100000)(h1:gs.length<=j)(h2:∀g∈gs,g.length<j)(hx:∀t∈xs,t∈zbA es fs)(hK:∀l' Y',GsI Y es fs span pb pk p xs (zY gs t.2,some t.1) l' Y'->K l' Y') :
  (Gc (Gu (Gw zQ (Gf (Ga 3) (G3 (Gb (.int 1)))) [(Ga 5)])) (Gc (Gh 4 (Ga 6)) Ge)) d (gsL pb pk span p a (some (zI t.2)) (some (.int t.1))) (Gy I K S) Gx Y':=by
 refine zbq (h.last hne) λys r g k1 k2 k3 k4=>?_;have hf:=zhA hne h1 h2 (m:=t.2);have hg:=h2 g k3;refine jv k1 (ze (zgk _ _) (zk k2 (zk k2 (zD (by rw[fC];exact fE hg (fE (fAC _ _) (fE hj (by decide)))) ?_))));exact⟨hI _,hK _ _ ⟨k4 t.2,.inr hf.1,jy _ _ rfl,zr j hj hf.2.1 hf.2.2,hx⟩⟩
theorem zqK{d:Nat}(G:Gd X (hK P))(hd:d<581)(hb:Y pb=some (.list (es.map zz)))(hk:Y pk=some (.list (fs.map zz)))(he:EsOk es)(hf:EsOk fs){b:List (List zd)×Option Int}{l:Loc}{Y':AHeap}(hI:∀Y,I Y)(h:GsI Y es fs span pb pk p (t::xs) b l Y')(hK:∀l' Y',GsI Y es fs span pb pk p xs (qf span b t) l' Y'->K l' Y') :
  ∃l',jL (.one 5) (zI t.2) l=some l'/\zdo X ⟨d,false⟩ l' (Gy I K S) Gx Y':=by
 refine z9 h.hl λu v el=>zh h.few λj hj h1 h2=>?_;subst el;have hx:=fM.mp h.hx;have hs:=h.gr.sub;rw[fH] at hj;refine zqy (jJ he hf hx.1) λ_ k hk1 hk2 hk3=>?_;refine zc _ rfl ?_;refine zde G (fY hd (by decide)) (hs _ _ hb) (hs _ _ hk) (m:=t.2) (k:=k) (e:=.tup [.int t.1,.int ((if t.2.1 then fs else es).getD k (0,0)).2]) ?_ hk1 ?_
 .rw[<-hk3];cases hbb:t.2.1<;>rw[hbb] at hk2<;>simp only[gK,if_false,if_true] at hk2 ⊢<;>rw[pZ,ju (d:=(0,0)) hk2]<;>rfl
 have hj1:j+1+xs.length<=100000:=by rw[fAP,Nat.add_comm 1];exact hj
 have hn:=ziF h1 h2;have opn:zbG span b.2 t.1=true->zbZ Y' p λ_=>∀r,Y' r=none->zbZ (Y'.set r (.list [])) p λys=>zdK (ys.length+1) ((Gc (Gu (Gw zQ (Gf (Ga 3) (G3 (Gb (.int 1)))) [(Ga 5)])) (Gc (Gh 4 (Ga 6)) Ge)) ⟨d,false⟩ (gsL pb pk span p (zoP b.2) (some (zI t.2)) (some (.int t.1))) (Gy I K S) Gx ((Y'.set r (.list [])).set p (.list (ys++[.ref r])))):=λho=>by
  refine zE h.gr.ex λrs g1 g2 g3 g4=>?_;refine zk g1 λr hr=>?_;have hrp:p≠r:=λe=>by rw[<-e,g1] at hr;exact absurd hr (fP _)
  refine zk ((AHeap.wB _ _ hrp).trans g1) (zD (by rw[fC,zh1 g2,fC];exact fE (gW h1) (fE (fAC _ _) (fE hj1 (by decide)))) ?_);refine zlj hI (GrpAt.vO g1 g2 g3 g4 hs hr) hn.1 hj1 hn.2.1 hn.2.2 hx.2 ?_;unfold qf at hK;rw[ho] at hK;exact hK
 cases hla:b.2 with
 | none=>
  rw[hla] at opn;exact opn rfl
 | some la=>
  rw[hla] at opn;refine qe (λho=>opn ho) λho=>?_;refine zlj hI h.gr (h.ne.resolve_left λe=>by rw[hla] at e;cases e) hj1 (pP h1) (λg hg=>pH (h2 g hg)) hx.2 ?_;have ho:zbG span b.2 t.1=false:=by rw[hla];exact ho
  unfold qf at hK;rw[ho] at hK;exact hK
end
theorem zhZ(G:Gd X (hK P))(hd:n<580){pb pk:Addr}{es fs:List Ent}{span:Int}(hb:Y pb=some (.list (es.map zz)))(hk:Y pk=some (.list (fs.map zz)))(he:EsOk es)(hf:EsOk fs)(q:∀Y' p,GrpAt Y Y' p (grps es fs span)->Ends Q (.ref p) Y') :
  CallOk X 47 ⟨n,false⟩ [.ref pb,.ref pk,.int span] Q Z Y:=by
 refine zoM G (fY hd (by decide)) λL=>?_;intro p hp;refine zh5 (G.push L) (zje hd) (zL hp _ _ hb) (zL hp _ _ hk) he hf ?_;refine zw (g:=λt:Tr=>zI t.2) (GsI Y es fs span pb pk p) (qf span) (λt xs b l Y' K S_ h hK=>zqK (G.push L) (gZ hd) hb hk he hf (λ_=>trivial) h hK) (b:=([],none)) (λl Y' h=>?_)
  ⟨⟨qm [] (AHeap.wA ..) .nil (fQ.mpr ⟨gD,.nil⟩) (λa ha=>by rw[fG.mp ha];exact hp),zL hp⟩,.inl rfl,jy _ _ rfl,zr 0 (by have:=zax es fs;have:=he.len;have:=hf.len;rw[fBD];exact zBi (by assumption) (by assumption) this) (fN 0) (λg hg=>nomatch hg),λt ht=>inO_mem.mp ht⟩
 refine z9 h.hl λu v el=>?_;subst el;exact q Y' p h.gr
theorem zmt(G:Gd X (hK P))(hd:n<580){pb pk:Addr}{es fs:List Ent}{span:Int}(hb:Y pb=some (.list (es.map zz)))(hk:Y pk=some (.list (fs.map zz)))(he:EsOk es)(hf:EsOk fs)(q:Q (.lst ((grps es fs span).map gAV)) Y) :
  CallOk X 47 ⟨n,false⟩ [.ref pb,.ref pk,.int span] Q Z Y:=by
 refine zhZ G hd hb hk he hf λY' p hG=>?_;obtain⟨⟨rs,h1,h2,h3,h4⟩,hs⟩:=hG;refine Ends.lists hs h1 h2 h3 h4 ?_;rw[gC];exact q
end
section
variable{P:Hl}{X:Cx}{n:Nat}{Q:zl}{Z:XP}{Y:AHeap}
noncomputable def jE(r:List Int):AV:=.tup (r.map .int)
theorem zf0(r:List Int):Flat 1 (jE r):=.tup λx hx=>by refine zb (fO.mp hx) λi _ e0_2=>?_;subst e0_2;exact .int i
theorem zlf{xs:List AV}{k:Nat}{R:Bool->AHeap->Prop}(hf:∀x∈xs,Flat k x)(hk:k<100)(q:R xs.isEmpty Y):eqG (.tup xs) (.tup []) R Y:=by
 refine zcf (k:=k+1) (j:=1) (.tup hf) (.tup λx hx=>nomatch hx) hk (λh=>?_) λh=>?_
 .cases h;exact q
 .cases xs with
  | nil=>exact absurd rfl h
  | cons _ _=>exact q
noncomputable def zaC(r:List Int)(p:Int):Bool:=match r.getLast? with
 | none=>true
 | some q=>decide (p>q)
noncomputable def zbO(ps:List Int)(r:List Int):List (List Int):=(ps.filter (zaC r)).map λp=>r++[p]
noncomputable def qy(ps:List Int)(k:Nat):List (List Int):=match k with
 | 0=>[[]]
 | k+1=>(qy ps k).flatMap (zbO ps)
theorem zee(ps r:List Int):(zbO ps r).length<=ps.length:=by unfold zbO;rw[fC];exact pE _ _
theorem zhW{α:Type}{f:α->List (List Int)}{c:Nat}(h:∀a,(f a).length<=c)(l:List α):(l.flatMap f).length<=l.length*c:=by
 induction l with
 | nil=>exact fX _
 | cons a l ih=>rw[pS,fF,fH,fBP];have:=h a;exact zCN ih this
theorem zmq{ps:List Int}(rs:List (List Int))(acc:List (List Int)):rs.foldl (λb r=>b++zbO ps r) acc=acc++rs.flatMap (zbO ps):=by
 induction rs generalizing acc with
 | nil=>exact(gT _).symm
 | cons r rs ih=>rw[pM,ih,pS,gF]
theorem zmr{ps:List Int}(k:Nat):(List.range k).foldl (λb _=>b.flatMap (zbO ps)) [[]]=qy ps k:=by
 induction k with
 | zero=>rfl
 | succ k ih=>rw[fDD,fB4,ih];rfl
theorem zeQ(G:Gd X (hK P))(hd:n<590){ps:List Int}{m:Nat}(hl:ps.length<=8)(hm:m<=3)(q:Q (.lst ((qy ps m).map jE)) Y):CallOk X 130 ⟨n,false⟩ [.lst (ps.map .int),.int m] Q Z Y:=by
 refine zmH G (fY hd (by decide)) λL=>?_;refine zcA (zkZ hm) ?_;refine zw (g:=λi:Nat=>AV.int i) (λxs b l Y'=>Y=Y'/\(∃u v w,l=[some (.lst (ps.map .int)),some (.int m),some (.lst (b.map jE)),u,v,w])/\b.length*8 ^ xs.length<=512/\∀r∈b,r.length+xs.length<=3) (λb _=>b.flatMap (zbO ps)) ?_ (b:=[[]]) ?_ (zp rfl (jk _ _ _ rfl) ?_ (λr hr=>by rw[fG.mp hr,gN,gU];exact zy1 hm))
 .intro i xs b l Y' K S_ hR1;refine zB hR1 λe0_0 h0_1 hb hr3=>?_;subst e0_0;obtain⟨u,v,w,rfl⟩:=h0_1;intro hK;rw[fH,Nat.pow_succ] at hb;rw[fH] at hr3;have hx:1<=8 ^ xs.length:=Nat.pow_pos (by decide);have hb1:8*b.length<=512:=Nat.mul_comm b.length 8▸fE (Nat.mul_le_mul_left _ (by lia)) hb;have hb2:(b.flatMap (zbO ps)).length*8 ^ xs.length<=512:=by
   refine fE (gM _ (zhW (c:=8) (λa=>fE (zee ps a) hl) b)) ?_;rw[Nat.mul_assoc,Nat.mul_comm 8];exact hb
  refine zc _ rfl ?_;refine zw (g:=jE) (λys acc l Y'=>Y=Y'/\(∃w,l=[some (.lst (ps.map .int)),some (.int m),some (.lst (b.map jE)),some (.int i),some (.lst (acc.map jE)),w])/\acc.length+8*ys.length<=512/\∀r∈ys,r.length<=3) (λacc r=>acc++zbO ps r) ?_ (b:=[]) ?_ (zp rfl ⟨_,rfl⟩ (by rw[gU];exact zFq hb1) (λr hr=>by have:=hr3 r hr;exact zzB this))
  .intro r ys acc l Y' K' S_ hR2;refine zB hR2 λe1_0 h1_1 ha hy3=>?_;subst e1_0;obtain⟨w,rfl⟩:=h1_1;intro hK';rw[fH] at ha;have hel:=zee ps r;refine zc _ rfl ?_;refine zR (g:=AV.int) (zaC r) (λp=>jE (r++[p])) (λ_=>rfl) (λ_ _=>rfl) (λp hp R q=>?_) (λp hp _ R q=>?_) trivial (zjg hl) ?_
   .refine zlf (k:=0) (λx hx=>by refine zb (fO.mp hx) λi _ e1_2=>?_;subst e1_2;exact .int i) (by decide) ?_;unfold zaC at q
    rcases fB5 r with rfl|⟨r',x,rfl⟩
    .exact q
    .rw[fB6] at q ⊢;rw[List.getLast?_append,List.getLast?_singleton] at q;have e:(List.map AV.int (r'++[x])).isEmpty=false:=by rw[fR];cases r'.map AV.int<;>rfl
     rw[e]
     conv=>whnf
     rw[fR];exact ze (zgk _ _) q
   .have:=hy3 r fA;refine zD (by rw[fC,fV];exact zy2 this) ?_;unfold jE at q;rw[fR] at q;exact q
   .refine zD (by rw[fC,fC];unfold zbO at hel;rw[fC] at hel;exact zFA hl ha hel) ?_;have e:acc.map jE++(ps.filter (zaC r)).map (λp=>jE (r++[p]))=(acc++zbO ps r).map jE:=by unfold zbO;rw[fR,gC];rfl
    rw[e];exact⟨trivial,hK' _ _ (zp rfl ⟨_,rfl⟩ (by rw[fF];exact zFC hl ha hel) (λr hr=>hy3 r (fB _ hr)))⟩
  .intro l Y' hR3;refine zB hR3 λe2_0 h2_1 _ _=>?_;subst e2_0;obtain⟨w,rfl⟩:=h2_1;rw[zmq,fAH];refine⟨trivial,hK _ _ (zp rfl (jk _ _ _ rfl) hb2 (λr hr=>?_))⟩;refine zb (gL.mp hr) λr0 h0 h1=>?_;refine zb (fO.mp h1) λp _ e3_2=>?_;subst e3_2;have:=hr3 r0 h0;rw[fF,fV];exact zzA this
 .intro l Y' hR4;refine zB hR4 λe3_0 h3_1 _ _=>?_;subst e3_0;obtain⟨u,v,w,rfl⟩:=h3_1;rw[zmr];exact Ends.same q
 .rw[gN,fV,fCY];exact fE (Nat.pow_le_pow_right (by decide) hm) (by decide)
end
section
variable{P:Hl}{X:Cx}{n:Nat}{Q:zl}{Z:XP}{Y:AHeap}
theorem zgm{c:Bool}{A B:Prop}(h:c=true)(q:A):cB c A B:=by rw[h];exact q
theorem zb8{c:Bool}{A B:Prop}(h:c=false)(q:B):cB c A B:=by rw[h];exact q
def Rise(ns:List Int)(n:Int):Prop:=ns.Pairwise (· < ·)/\∀p∈ns,0<=p/\p<n
theorem Rise.lt{ns:List Int}{n:Int}(h:Rise ns n){i:Nat}(hi:i+1<ns.length):ns.getD i 0<ns.getD (i+1) 0:=by
 have:=fA2.mp h.1 i (i+1) (zhu hi) hi (fCB i);rw[fS,fS,fU hi,fU (zhu hi:i<ns.length)];exact this
theorem zco(G:Gd X (hK P))(hd:n<590){ns:List Int}{m:Int}(hl:ns.length<=100)(hr:Rise ns m)(q:Q (.bool true) Y):CallOk X 115 ⟨n,false⟩ [jE ns,.int m] Q Z Y:=by
 refine zie G (fY hd (by decide)) λL=>?_
 conv=>whnf
 rw[fC];refine zcA (zyW hl) ?_;refine zfD (β:=Unit) (g:=λi:Nat=>AV.int i) (λxs _ l Y'=>Y=Y'/\(∃u,l=[some (jE ns),some (.int m),u])/\∀i∈xs,i<ns.length) (λb _=>b) ?_ (b:=()) ?_ (zo rfl ⟨_,rfl⟩ (λi hi=>pR.mp hi))
 .rintro i xs _ l Y' K ⟨rfl,⟨u,rfl⟩,hx⟩ hK;have hi:=hx i fA;have hp:=hr.2 _ (getD_mem (d:=0) hi);have hK:=hK _ _ (zo rfl ⟨some (.int i),rfl⟩ (λj hj=>hx j (fB _ hj)));refine zc _ rfl ?_;refine ze (qA (ju (d:=0) hi)) ?_;refine zgm (H0 hp.1) ?_
  conv=>whnf
  rw[H0 hp.2];cases i with
  | zero=>exact⟨trivial,hK⟩
  | succ i=>
   refine zgm (H0 zza) ?_;refine ze (qA (ju (d:=0) hi)) ?_
   conv=>whnf
   have e:(((i+1:Nat):Int)-1)=(i:Int):=ztH;rw[e];refine ze (qA (ju (d:=0) (zhu hi))) ?_
   conv=>whnf
   have:=hr.lt hi;refine zb8 (Hz (y58 this)) ?_;exact⟨trivial,hK⟩
 .rintro l Y' ⟨rfl,⟨u,rfl⟩,_⟩;exact Ends.same q
noncomputable def jY(es:List Ent)(p:Int):Int:=(es.getD p.toNat (0,0)).1
noncomputable def zF(es:List Ent)(p:Int):Int:=(es.getD p.toNat (0,0)).2
noncomputable def zdT(l:List Int)(span:Int):Bool:=l.all λa=>l.all λb=>decide (a-b<=span)
noncomputable def kn(es fs:List Ent)(m:Mt):List Int:=m.1.map (jY es)++m.2.map (jY fs)
theorem zf6{l:List Int}{M m span:Int}(h1:M∈l)(h2:∀a∈l,a<=M)(h3:m∈l)(h4:∀a∈l,m<=a):decide (M-m<=span)=zdT l span:=by
 unfold zdT;rw[Bool.eq_iff_iff,decide_eq_true_iff,fAM];refine⟨λh a ha=>fAM.mpr λb hb=>H0 ?_,λh=>?_⟩
 .have:=h2 a ha;have:=h4 b hb;exact y71 h (by assumption) this
 .exact H1 (fAM.mp (h M h1) m h3)
theorem zgj{es:List Ent}{p:Int}(h0:0<=p)(h1:p<es.length):jK (es.map zz) p=some (.tup [.int (jY es p),.int (zF es p)]):=by
 obtain⟨k,rfl⟩:=fAT h0;refine(qA (ju (d:=(0,0)) (by lia))).trans ?_;unfold jY zF
 rfl
noncomputable def zaW(es fs:List Ent)(span:Int)(m:Mt):Bool:=decide ((m.1.map (zF es)).sum=(m.2.map (zF fs)).sum)&&zdT (kn es fs m) span
theorem zhK{es:List Ent}(h:EsOk es)(p:Int):(zF es p).natAbs<=1000000000:=by
 unfold zF
 by_cases hk:p.toNat<es.length
 .exact h.cents _ (getD_mem hk)
 .rw[fS,fAK (pQ.mp hk)];decide
theorem zfI{x:Int}(h:x.natAbs<=1000000000000000):PySem.InLong x:=
 have n:=nab (pH h)
 ⟨fCL (fC9 (by decide) n.1),fC9 n.2 (by decide)⟩
theorem zkR{ns:List Int}(hl:ns.length<=1000)(h:∀a∈ns,a.natAbs<=1000000000000):PySem.SumFits ns:=by
 have gen:∀(l:List Int),(∀a∈l,a.natAbs<=1000000000000)->l.sum.natAbs<=l.length*1000000000000:=by
  intro l
  induction l with
  | nil=>intro _;simp
  | cons a l ih=>
   intro h;have h1:=h a fA;have h2:=ih λb hb=>h b (fB _ hb);simp only[List.sum_cons,fH];exact fE (Int.natAbs_add_le a l.sum) (fE (fCN h1 h2) (pC (by rw[fBP,Nat.add_comm])))
 intro j hj;have h1:=h (ns.getD j 0) (PySem.getD_mem hj);have h2:=gen (ns.take (j+1)) λa ha=>h a (fBL ha);have h3:(ns.take (j+1)).length<=1000:=fE (List.length_take_le' _ _) hl;exact⟨zfI (fE h1 (by decide)),zfI (fE h2 (gM _ h3))⟩
theorem zby{es:List Ent}(h:EsOk es){ms:List Int}(hl:ms.length<=100):PySem.SumFits (ms.map (zF es)):=
 zkR (by rw[fC];exact zyV hl) λa ha=>by
  refine zb (fO.mp ha) λp _ e1_2=>?_;subst e1_2;have:=zhK h p;lia
theorem zdU{xs:List AV}{ns:List Int}(e:xs=ns.map .int)(h:PySem.SumFits ns)(q:Q (.int ns.sum) Y):zru xs Q Y:=by unfold zru;exact zr ns e h q
theorem zlw{ns:List Int}(h:ns≠[])(q:∀M,M∈ns->(∀a∈ns,a<=M)->Q (.int M) Y):zrb (ns.map .int) Q Y:=by unfold zrb;exact zr ns rfl h q
theorem zgY{ns:List Int}(h:ns≠[])(q:∀M,M∈ns->(∀a∈ns,M<=a)->Q (.int M) Y):zrd (ns.map .int) Q Y:=by unfold zrd;exact zr ns rfl h q
theorem zqC(G:Gd X (hK P))(hd:n<580){pb pk:Addr}{es fs:List Ent}{span:Int}{m:Mt}(hb:Y pb=some (.list (es.map zz)))(hk:Y pk=some (.list (fs.map zz)))(he:EsOk es)(hf:EsOk fs)
  (h1:min (m.1.length:Int) m.2.length=1)(h2:max (m.1.length:Int) m.2.length<=3)(r1:Rise m.1 es.length)(r2:Rise m.2 fs.length)(q:Q (.bool (zaW es fs span m)) Y):CallOk X 125 ⟨n,false⟩ [.ref pb,.ref pk,.int span,zu m] Q Z Y:=by
 refine zsV G (fY hd (by decide)) λL=>?_;have l1:m.1.length<=3:=zzs h2;have l2:m.2.length<=3:=zzu h2
 conv=>whnf
 rw[fC,fC];rw[h1];refine zb8 (Hz (zzt h2)) ?_;refine ze (zA hb) ?_;rw[fC];refine zco (G.push L) (zje hd) (znI l1) r1 ?_
 conv=>whnf
 refine ze (zA hk) ?_;rw[fC];refine zco (G.push L) (zje hd) (znI l2) r2 ?_;have a1:∀p∈m.1,jK (es.map zz) p=some (.tup [.int (jY es p),.int (zF es p)]):=λp hp=>zgj (r1.2 p hp).1 (r1.2 p hp).2;have a2:∀p∈m.2,jK (fs.map zz) p=some (.tup [.int (jY fs p),.int (zF fs p)]):=λp hp=>zgj (r2.2 p hp).1 (r2.2 p hp).2;refine zP (λp=>.int (zF es p)) (λ_=>rfl) (λ_ _=>rfl) (λp hp R q=>?_) trivial (zkZ l1) ?_
 .exact jv hb (ze (a1 p hp) q)
 refine zdU (ns:=m.1.map (zF es)) (by rw[gC];rfl) (zby he (znI l1)) ?_;refine zP (λp=>.int (zF fs p)) (λ_=>rfl) (λ_ _=>rfl) (λp hp R q=>?_) trivial (zkZ l2) ?_
 .exact jv hk (ze (a2 p hp) q)
 refine zdU (ns:=m.2.map (zF fs)) (by rw[gC];rfl) (zby hf (znI l2)) ?_;unfold zaW at q
 conv=>whnf
 by_cases hs:(m.1.map (zF es)).sum=(m.2.map (zF fs)).sum
 .rw[H0 hs] at q ⊢;rw[Bool.true_and] at q;refine kK (G.push L) (zje hd) (zjf l1) (zjf l2) ?_;refine zP (λx=>.int (jY (if x.1 then fs else es) x.2)) (λ_=>rfl) (λ_ _=>rfl) (λx hx R q=>?_) trivial ?_ ?_
  .have hx:(0<=x.2/\x.2<(if x.1 then fs else es).length):=by
    rcases fT.mp hx with h|h<;>obtain⟨p,hp,rfl⟩:=fO.mp h
    .exact r1.2 p hp
    .exact r2.2 p hp
   obtain⟨k,hk'⟩:=fAT hx.1;refine zde (G.push L) (zje hd) hb hk (k:=k) (e:=zz ((if x.1 then fs else es).getD k (0,0))) ?_ hk' ?_
   .have:=hx.2;cases hbb:x.1<;>rw[hbb] at this<;>simp only[gK,if_false,if_true] at this ⊢<;>rw[pZ,ju (d:=(0,0)) (by lia)]<;>rfl
   .unfold jY at q;rw[hk',fCU] at q;exact q
  .unfold zf;rw[fF,fC,fC];exact zws l1 l2
  have ed:(zf m).map (λx=>AV.int (jY (if x.1 then fs else es) x.2))=(kn es fs m).map .int:=by
   unfold zf kn;rw[fR,fR,gC,gC,gC,gC];rfl
  rw[ed];have ne:kn es fs m≠[]:=λe=>by
   have:=congrArg List.length e;unfold kn at this;rw[fF,fC,fC,gU] at this;exact zzv h1 this
  refine zlw ne λM hM1 hM2=>?_
  conv=>whnf
  refine zgY ne λM' hM3 hM4=>?_;rw[<-zf6 hM1 hM2 hM3 hM4] at q;exact Ends.same q
 .rw[Hz hs] at q ⊢;exact Ends.same q
end
theorem zgA{i j:Int}:PyData.eqv (.int i) (.int j)=(i==j):=by simp[PyData.eqv]
noncomputable def qR(r:List Int):PyData:=.tuple (r.map .int)
noncomputable def szs:List (Nat×Nat):=[(1,1),(1,2),(2,1),(1,3),(3,1)]
theorem mem_ext{ps r s:List Int}:s∈zbO ps r↔∃p∈ps,zaC r p=true/\s=r++[p]:=by
 unfold zbO;rw[fO];constructor
 .intro hR1;refine zb hR1 λp hp e0_2=>?_;subst e0_2;exact zr p ((fZ.mp hp).1) ((fZ.mp hp).2) rfl
 .intro hR2;refine zh hR2 λp hp hl e1_3=>?_;subst e1_3;exact zc p (fZ.mpr ⟨hp,hl⟩) rfl
theorem zaf{α β:Type}{f:α->β}:∀{l:List α},l.Nodup->(∀a∈l,∀b∈l,f a=f b->a=b)->(l.map f).Nodup:=by
 intro l hn h;rw[fBM,fA4];exact(List.Pairwise.and_mem.mp (fBM.mp hn)).imp λ{a b} ⟨ha,hb,hne⟩ e=>hne (h a ha b hb e)
theorem qd{α β:Type}{f:α->List β}(back:β->α):∀{l:List α},l.Nodup->(∀a∈l,(f a).Nodup)->(∀a∈l,∀x∈f a,back x=a)->(l.flatMap f).Nodup:=by
 intro l
 induction l with
 | nil=>intro _ _ _;exact .nil
 | cons a l ih=>
  intro hn h1 h2;obtain⟨n1,n2⟩:=fQ.mp hn;rw[pS,gR];refine zo (h1 a fA) (ih n2 (λb hb=>h1 b (fB _ hb)) (λb hb=>h2 b (fB _ hb))) (λx hx y hy e=>n1 ?_);refine zb (gL.mp hy) λb hb hy=>?_;rw[<-h2 a fA x hx,e,h2 b (fB _ hb) y hy];exact hb
def Up(ps s:List Int):Prop:=s.Pairwise (· < ·)/\∀p∈s,p∈ps
theorem zem{r:List Int}{p:Int}(h:r.Pairwise (· < ·)):zaC r p=true↔∀a∈r,a<p:=by
 rcases fB5 r with rfl|⟨r0,z,rfl⟩
 .simp[zaC]
 .rw[fB6] at h ⊢;have hll:zaC (r0++[z]) p=decide (p>z):=by unfold zaC;simp
  rw[hll,decide_eq_true_iff];have h3:=(gG.mp h).2.2;constructor
  .intro hz a ha
   rcases fT.mp ha with ha|ha
   .have:=h3 a ha z fA;exact y69 hz this
   .have:a=z:=by simpa using ha
    exact y70 hz this
  .intro hz;exact hz z (gH _ fA)
theorem mem_rowsN{ps:List Int}{k:Nat}:∀{s:List Int},s∈qy ps k↔s.length=k/\Up ps s:=by
 induction k with
 | zero=>
  intro s;constructor
  .intro h;rw[fG.mp h];exact zo rfl .nil (λ_ h=>nomatch h)
  .rintro⟨h,_⟩;rw[gY.mp h];exact fG.mpr rfl
 | succ k ih=>
  intro s;show s∈(qy ps k).flatMap (zbO ps)↔_;rw[gL];constructor
  .intro hR3;refine zb hR3 λr h1 h2=>?_;refine zh (mem_ext.mp h2) λp hp hl e2_3=>?_;subst e2_3;obtain⟨e,hu⟩:=ih.mp h1;rw[zem hu.1] at hl;refine zo (by rw[fF,e];rfl) (gG.mpr (zo hu.1 (pO _ _) (λa ha b hb=>?_))) (λq hq=>?_)
   .have:b=p:=by simpa using hb
    rw[this];exact hl a ha
   .rcases fT.mp hq with hq|hq
    .exact hu.2 q hq
    .have:q=p:=by simpa using hq
     rw[this];exact hp
  .rintro⟨e,hu⟩
   rcases fB5 s with rfl|⟨r,p,rfl⟩
   .cases e
   .rw[fB6] at *;refine zZ (gG.mp hu.1) λu1 u2 u3=>?_;exact zc r (ih.mpr (zo (by rw[fF] at e;simpa using e) u1 (λq hq=>hu.2 q (pB _ hq)))) (mem_ext.mpr (zr p (hu.2 p (gH _ fA)) ((zem u1).mpr λa ha=>u3 a ha p fA) rfl))
theorem zdB{ps:List Int}(h:ps.Nodup)(k:Nat):(qy ps k).Nodup:=by
 induction k with
 | zero=>exact fQ.mpr ⟨gD,.nil⟩
 | succ k ih=>exact qd List.dropLast ih (λr _=>zaf (List.Nodup.sublist pL h) λa _ b _ e=>(by simpa using e)) λr _ x hx=>(by
   refine zh (mem_ext.mp hx) λp _ _ e5_3=>?_;subst e5_3;exact List.dropLast_concat)
noncomputable def qI(fit:Mt->Bool)(bs:List Int)(k:Nat)(l:List Int):List Mt:=((qy bs k).filter λr=>fit (l,r)).map λr=>(l,r)
noncomputable def zl9(fit:Mt->Bool)(as bs:List Int)(z:Nat×Nat):List Mt:=(qy as z.1).flatMap (qI fit bs z.2)
noncomputable def zqo(fit:Mt->Bool)(as bs:List Int):List Mt:=szs.flatMap (zl9 fit as bs)
theorem mem_matchOf{fit:Mt->Bool}{bs l:List Int}{k:Nat}{x:Mt}:x∈qI fit bs k l↔x.1=l/\x.2.length=k/\Up bs x.2/\fit (l,x.2)=true:=by
 unfold qI;rw[fO];constructor
 .intro hR4;refine zb hR4 λr hr e5_2=>?_;subst e5_2;obtain⟨h1,h2⟩:=fZ.mp hr;obtain⟨h3,h4⟩:=mem_rowsN.mp h1;exact zp rfl h3 h4 h2
 .intro hR5;refine zB hR5 λh1 h2 h3 h4=>?_;exact zc x.2 (fZ.mpr ⟨mem_rowsN.mpr ⟨h2,h3⟩,h4⟩) (by rw[<-h1])
theorem mem_bySz{fit:Mt->Bool}{as bs:List Int}{z:Nat×Nat}{x:Mt}:x∈zl9 fit as bs z↔x.1.length=z.1/\Up as x.1/\x.2.length=z.2/\Up bs x.2/\fit x=true:=by
 unfold zl9;rw[gL];constructor
 .intro hR6;refine zb hR6 λl hl hx=>?_;obtain⟨rfl,h2⟩:=mem_matchOf.mp hx;obtain⟨h3,h4⟩:=mem_rowsN.mp hl;exact zo h3 h4 h2
 .intro hR7;refine zZ hR7 λh1 h2 h3=>?_;exact zc x.1 (mem_rowsN.mpr ⟨h1,h2⟩) (mem_matchOf.mpr ⟨rfl,h3⟩)
noncomputable def enc:Nat->List Int->Nat
 | 0,_=>0
 | _+1,[]=>0
 | n+1,x::xs=>(x.toNat+1)*100 ^ n+enc n xs
def Sm(l:List Int):Prop:=l.length<=3/\∀p∈l,0<=p/\p<90
theorem qE:∀(n:Nat) {l:List Int},(∀p∈l,0<=p/\p<90)->enc n l<100 ^ n
 | 0,_,_=>(fN _)
 | n+1,[],_=>Nat.pow_pos (by decide)
 | n+1,x::xs,h=>by
  have h1:=qE n (l:=xs) λp hp=>h p (fB _ hp);have h2:=h x fA;show (x.toNat+1)*100 ^ n+enc n xs<100 ^ (n+1);have h3:(x.toNat+1)*100 ^ n<=90*100 ^ n:=gM _ (y7 h2);rw[Nat.pow_succ]
  lia
theorem zle(n:Nat):∀{l r:List Int},l.length<=n->r.length<=n->(∀p∈l,0<=p/\p<90)->(∀p∈r,0<=p/\p<90)->zbV (l.map .int) (r.map .int)=some (decide (enc n l<enc n r))/\(enc n l=enc n r->l=r):=by
 have pos:∀(x:Int) (xs:List Int) (n:Nat),0<enc (n+1) (x::xs):=λx xs n=>pI (Nat.mul_pos (Nat.succ_pos _) (Nat.pow_pos (by decide))) (fAC _ _)
 induction n with
 | zero=>
  intro l r h1 h2 _ _;rw[gY.mp (fDE.mp h1),gY.mp (fDE.mp h2)];exact⟨rfl,λ_=>rfl⟩
 | succ n ih=>
  intro l r h1 h2 s1 s2;cases l with
  | nil=>cases r with
   | nil=>exact⟨rfl,λ_=>rfl⟩
   | cons y ys=>
    have h3:=pos y ys n;refine⟨?_,λe=>absurd h3 (Nat.not_lt_of_le (pC e.symm))⟩;rw[H0 (show enc (n+1) []<enc (n+1) (y::ys) from h3)];exact zq7 ..
  | cons x xs=>cases r with
   | nil=>
    have h3:=pos x xs n;refine⟨?_,λe=>absurd h3 (Nat.not_lt_of_le (pC e))⟩;rw[Hz (show ¬enc (n+1) (x::xs)<enc (n+1) [] from fBT _)];exact zq6 ..
   | cons y ys=>
    obtain⟨g1,g2⟩:=ih (l:=xs) (r:=ys) (fAD h1) (fAD h2) (λp hp=>s1 p (fB _ hp)) λp hp=>s2 p (fB _ hp);have a1:=qE n (l:=xs) λp hp=>s1 p (fB _ hp);have a2:=qE n (l:=ys) λp hp=>s2 p (fB _ hp);have b1:=(s1 x fA).1;have b2:=(s2 y fA).1;have key:enc (n+1) (x::xs)<enc (n+1) (y::ys)↔x<y\/x=y/\enc n xs<enc n ys:=(zbh (M:=100 ^ n) (x:=x.toNat+1) (y:=y.toNat+1) a1 a2).trans (or_congr (fCD.trans (zaq b1 b2)) (and_congr ⟨λe=>zap b1 b2 (Nat.succ.inj e),λe=>by rw[e]⟩ Iff.rfl));refine⟨?_,λe=>?_⟩
    .simp only[gJ,qY,zgA]
     by_cases he:x=y
     .subst he;rw[beq_self_eq_true,if_pos rfl,g1];exact congrArg some (decide_eq_decide.mpr (key.trans ⟨λh=>(h.resolve_left (fBS x)).2,λh=>.inr ⟨rfl,h⟩⟩).symm)
     .rw[beq_eq_false_iff_ne.mpr he,if_neg pU,zdm];exact congrArg some (decide_eq_decide.mpr (key.trans ⟨λh=>h.resolve_right λh=>he h.1,.inl⟩).symm)
    .have e':=zaE (M:=100 ^ n) (x:=x.toNat+1) (y:=y.toNat+1) a1 a2 e;rw[zap b1 b2 (Nat.succ.inj e'.1),g2 e'.2]
theorem zcg:∀(l r:List Int),PyData.eqv (qR l) (qR r)=decide (l=r):=by
 intro l r;unfold qR;simp only[PyData.eqv]
 induction l generalizing r with
 | nil=>cases r<;>simp[PyData.eqvAll]
 | cons x xs ih=>
  cases r with
  | nil=>simp[PyData.eqvAll]
  | cons y ys=>
   simp only[gJ,PyData.eqvAll,zgA,ih]
   by_cases h:x=y
   .subst h;simp
   .simp[h]
theorem zoY{l r:List Int}(hl:Sm l)(hr:Sm r):ltD (qR l) (qR r)=some (decide (enc 3 l<enc 3 r)):=by
 unfold qR;simp only[zeo];exact(zle 3 hl.1 hr.1 hl.2 hr.2).1
theorem zgy{l r:List Int}(hl:Sm l)(hr:Sm r)(e:enc 3 l=enc 3 r):l=r:=(zle 3 hl.1 hr.1 hl.2 hr.2).2 e
noncomputable def num(x:Mt):Nat:=(x.1.length+x.2.length)*1000000000000+enc 3 x.1*1000000+enc 3 x.2
def SmM(x:Mt):Prop:=Sm x.1/\Sm x.2
theorem zyg(a b c:Nat):a*1000000000000+b*1000000+c=(a*100 ^ 3+b)*100 ^ 3+c:=by rw[Nat.add_mul (a*100 ^ 3) b,Nat.mul_assoc]
theorem zg3(x:Mt):num x=((x.1.length+x.2.length)*100 ^ 3+enc 3 x.1)*100 ^ 3+enc 3 x.2:=zyg _ _ _
theorem zg4{x y:Mt}(hx:SmM x)(hy:SmM y)(e:num x=num y):x=y:=by
 have a1:=qE 3 hx.1.2;have a2:=qE 3 hx.2.2;have a3:=qE 3 hy.1.2;have a4:=qE 3 hy.2.2;rw[zg3,zg3] at e;have e1:=zaE a2 a4 e;have h1:=(zaE a1 a3 e1.1).2;have h2:=e1.2;exact Prod.ext (zgy hx.1 hy.1 h1) (zgy hx.2 hy.2 h2)
noncomputable def szI(x:Mt):Int:=(x.1.length:Int)+x.2.length
noncomputable def zmJ(x:Mt):PyData:=.tuple [.int (szI x),.tuple [qR x.1,qR x.2]]
theorem zoX{x y:Mt}(hx:SmM x)(hy:SmM y):zbV [qR x.1,qR x.2] [qR y.1,qR y.2]=some (decide (enc 3 x.1*1000000+enc 3 x.2<enc 3 y.1*1000000+enc 3 y.2)):=by
 have a2:=qE 3 hx.2.2;have a4:=qE 3 hy.2.2;simp only[qY,zgT,zcg,decide_eq_true_eq]
 by_cases h1:x.1=y.1
 .rw[if_pos h1,h1]
  by_cases h2:x.2=y.2
  .rw[if_pos h2,h2,Hz (fBR _)]
  .rw[if_neg h2,zoY hx.2 hy.2];exact congrArg some (decide_eq_decide.mpr Nat.add_lt_add_iff_left.symm)
 .rw[if_neg h1,zoY hx.1 hy.1];exact congrArg some (decide_eq_decide.mpr ((zbh (M:=1000000) a2 a4).trans ⟨λh=>h.resolve_right λh=>h1 (zgy hx.1 hy.1 h.1),.inl⟩).symm)
theorem zti{x y:Mt}(hx:SmM x)(hy:SmM y)(hne:x.1.length+x.2.length≠y.1.length+y.2.length):x.1.length+x.2.length<y.1.length+y.2.length↔num x<num y:=by
 have a1:=qE 3 hx.1.2;have a2:=qE 3 hx.2.2;have a3:=qE 3 hy.1.2;have a4:=qE 3 hy.2.2;rw[zg3,zg3,zbh a2 a4,zbh a1 a3];refine⟨λh=>.inl (.inl h),λh=>h.elim (λh=>h.resolve_right λh=>hne h.1) λh=>absurd (zaE a1 a3 h.1).1 hne⟩
theorem zin{x y:Mt}(hx:SmM x)(hy:SmM y){t:Option Bool}(h:szI x=szI y->t=some (decide (enc 3 x.1*1000000+enc 3 x.2<enc 3 y.1*1000000+enc 3 y.2))):(if (szI x==szI y)=true then t else ltD (.int (szI x)) (.int (szI y)))=some (decide (num x<num y)):=by
 by_cases e:szI x=szI y
 .rw[e,beq_self_eq_true,if_pos rfl,h e];unfold num;exact congrArg some (decide_eq_decide.mpr (by rw[fAP,fAP (_*_),show x.1.length+x.2.length=y.1.length+y.2.length from Int.ofNat.inj e,Nat.add_lt_add_iff_left]))
 .rw[beq_eq_false_iff_ne.mpr e,if_neg (by decide)];unfold szI at e ⊢;simp only[zdm];refine congrArg some (decide_eq_decide.mpr (Iff.trans fBB (zti hx hy λh=>e (congrArg Int.ofNat h))))
theorem zs5{x y:Mt}(hx:SmM x)(hy:SmM y):ltD (zmJ x) (zmJ y)=some (decide (num x<num y)):=by
 unfold zmJ;rw[zeo,qY,zgA];refine zin hx hy λ_=>?_;simp only[qY,zgT,zeo,zdm,PyData.eqv,PyData.eqvAll,fC1]
 by_cases h:x=y
 .subst h;rw[if_pos (by simp[zcg]),Hz (fBR _)]
 .have:¬((PyData.eqv (qR x.1) (qR y.1)&&PyData.eqv (qR x.2) (qR y.2))=true):=by
   rw[zcg,zcg,gX,decide_eq_true_eq,decide_eq_true_eq];exact λe=>h (Prod.ext e.1 e.2)
  rw[if_neg this];exact zoX hx hy
section
variable{P:Hl}{X:Cx}{n:Nat}{Q:zl}{Z:XP}{Y:AHeap}
noncomputable def zaV(s:Bool)(g:List zd):List Int:=(g.filter λm=>m.1==s).map (·.2)
structure GOk(g:List zd)(na nb:Nat):Prop where
 nodup:g.Nodup
 inn:∀m∈g,0<=m.2/\m.2<((if m.1 then nb else na:Nat):Int)
 few:g.length<=8
 small:na<=80/\nb<=80
noncomputable def unI(v:AV):Int:=match v with
 | .int i=>i
 | _=>0
theorem zpN{s:Bool}{g:List zd}(h:g.length<=8):(zaV s g).length<=8:=by unfold zaV;rw[fC];exact fE (pE ..) h
theorem side_mem{s:Bool}{g:List zd}{p:Int}:p∈zaV s g↔(s,p)∈g:=by
 unfold zaV;rw[fO];constructor
 .intro hR1;refine zb hR1 λh0_0 h e0_2=>?_;obtain⟨b,i⟩:=h0_0;subst e0_2;obtain⟨h1,h2⟩:=fZ.mp h;have h2:b=s:=H3 h2;subst h2;exact h1
 .intro h;exact zc (s,p) (fZ.mpr ⟨h,BEq.rfl⟩) rfl
theorem zkz{s:Bool}{g:List zd}(h:g.Nodup):(zaV s g).Nodup:=zaf (List.Nodup.sublist pL h) λa ha b hb e=>by
 have h1:=H3 (fZ.mp ha).2;have h2:=H3 (fZ.mp hb).2;exact Prod.ext (h1.trans h2.symm) e
theorem zlQ{r:Bool}{ns:List Int}(h0:∀p∈ns,0<=p)(q:mkL r ((srt Int.toNat ns).map .int) Q Y):zf4 r (ns.map .int) Q Y:=by
 refine zcK unI (λ_=>rfl) Int.toNat (λx hx y hy e=>by have:=h0 x hx;have:=h0 y hy;exact y54 e (by assumption) this) (.inr λx hx=>?_) (λx hx y hy=>?_) q
 .refine zb (fO.mp hx) λi _ e1_2=>?_;subst e1_2;exact⟨i,rfl⟩
 .refine jw _ _ (.int _) (.int _) (by simp[PyData.depth]) (by simp[PyData.depth]) ?_;exact congrArg some (decide_eq_decide.mpr (zaq (h0 x hx) (h0 y hy)).symm)
noncomputable def ups(s:Bool)(g:List zd):List Int:=srt Int.toNat (zaV s g)
theorem ups_mem{s:Bool}{g:List zd}{p:Int}:p∈ups s g↔(s,p)∈g:=(zX ..).mem_iff.trans side_mem
theorem q7{s:Bool}{g:List zd}(h:g.length<=8):(ups s g).length<=8:=by unfold ups;rw[(zX ..).length_eq];exact zpN h
noncomputable def win(es fs:List Ent)(span:Int)(g:List zd):List Mt:=srt num (zqo (zaW es fs span) (ups false g) (ups true g))
theorem zak{ps:List Int}(h:ps.length<=8)(k:Nat):(qy ps k).length<=8 ^ k:=by
 induction k with
 | zero=>exact fN 1
 | succ k ih=>exact fE (zhW (c:=8) (λa=>fE (zee ps a) h) _) (by rw[Nat.pow_succ];exact gM 8 ih)
theorem zlo{x y:Mt}(hx:SmM x)(hy:SmM y):zdY Y (.tup [.int ((x.1.length:Int)+x.2.length),zu x]) (.tup [.int ((y.1.length:Int)+y.2.length),zu y]) (decide (num x<num y)):=by
 have rdI:∀l:List Int,RdL Y (l.map .int) (l.map .int):=λl=>by
  induction l with
  | nil=>exact .nil
  | cons i l ih=>exact .cons (.int i) ih
 have rd:∀z:Mt,Rd Y (.tup [.int ((z.1.length:Int)+z.2.length),zu z]) (zmJ z):=λz=>.tup (.cons (.int _) (.cons (.tup (.cons (.tup (rdI _)) (.cons (.tup (rdI _)) .nil))) .nil));have dI:∀l:List Int,PyData.depthAll (l.map .int)=0:=λl=>by
  induction l with
  | nil=>rfl
  | cons i l ih=>rw[gJ,PyData.depthAll,ih];rfl
 have dp:∀z:Mt,(zmJ z).depth<=100:=λz=>by
  unfold zmJ qR;simp only[PyData.depth,PyData.depthAll,dI];decide
 exact jw _ _ (rd x) (rd y) (dp x) (dp y) (zs5 hx hy)
theorem zd2{fit:Mt->Bool}{g:List zd}{na nb:Nat}(hg:GOk g na nb){x:Mt}(h:x∈zqo fit (ups false g) (ups true g)):SmM x/\Rise x.1 na/\Rise x.2 nb/\min x.1.length x.2.length=1/\fit x=true:=by
 refine zb (gL.mp h) λz hz hx=>?_;refine jC (mem_bySz.mp hx) λh1 u1 h2 u2 h3=>?_;have hzl:∀z∈szs,z.1<=3/\z.2<=3/\min z.1 z.2=1:=by decide
 refine zZ (hzl z hz) λz1 z2 z3=>?_;have i1:∀p∈x.1,0<=p/\p<(na:Int):=λp hp=>hg.inn _ (ups_mem.mp (u1.2 p hp));have i2:∀p∈x.2,0<=p/\p<(nb:Int):=λp hp=>hg.inn _ (ups_mem.mp (u2.2 p hp));have:=hg.small;exact jo (zo ⟨zrP h1 z1,λp hp=>by have:=i1 p hp;exact y99 (by assumption) this⟩ (zrP h2 z2) (λp hp=>by have:=i2 p hp;exact zys (by assumption) this)) ⟨u1.1,i1⟩ ⟨u2.1,i2⟩ (zCB h1 h2 z3) h3
theorem zsp:∃u:AV->Mt,∀x,u (zu x)=x:=⟨λv=>match v with
  | .tup [.tup a,.tup b]=>(a.map unI,b.map unI)
  | _=>([],[]),λx=>by
   show (_,_)=x;rw[gC,gC];have:unI∘AV.int=id:=rfl;rw[this,fBY,fBY]⟩
theorem zda{X:Cx}{xs:List Mt}{f:Addr}(hc:∀{m:Mt} {Q:zl} {Z:XP},Q (.tup [.int ((m.1.length:Int)+m.2.length),zu m]) Y->CallOk X f ⟨n+1,false⟩ [zu m] Q Z Y)(hd:n<580)(h:∀x∈xs,SmM x){r:Bool}(q:mkL r ((srt num xs).map zu) Q Y):zeU X f r ⟨n,false⟩ (xs.map zu) Q Y:=by
 refine z8 zsp λu hu=>?_;unfold zeU;refine jw (λv=>.tup [.int (((u v).1.length:Int)+(u v).2.length),v]) (λv=>num (u v)) (by lia) (λv hv=>?_) (λv hv=>(jy _ _ rfl)) (λv hv w hw=>?_) (λys h1 h2=>?_)
 .refine zb (fO.mp hv) λx hx e6_2=>?_;subst e6_2;refine hc ?_;exact⟨by dsimp only;rw[hu],rfl⟩
 .refine zb (fO.mp hv) λx hx e7_2=>?_;subst e7_2;refine zb (fO.mp hw) λy hy e8_2=>?_;subst e8_2;simp only[hu];exact zlo (h x hx) (h y hy)
 .obtain⟨p1,p2⟩:=zg7 hu h1;rw[p2,zeZ (λx hx y hy=>zg4 (h x hx) (h y hy)) p1 (fA4.mpr h2)];exact q
theorem zeV{X:Cx}{xs:List Mt}(G:Gd X (hK P))(hd:n<580)(h:∀x∈xs,SmM x){r:Bool}(q:mkL r ((srt num xs).map zu) Q Y):zeU X 137 r ⟨n,false⟩ (xs.map zu) Q Y:=zda (λq=>zjl G (zje hd) q) hd h q
noncomputable def zi5(z:Nat×Nat):AV:=.tup [.int (z.1:Nat),.int (z.2:Nat)]
theorem jN{α β:Type}(f:α->List β)(xs:List α)(acc:List β):xs.foldl (λb x=>b++f x) acc=acc++xs.flatMap f:=by
 induction xs generalizing acc with
 | nil=>exact(gT _).symm
 | cons x xs ih=>rw[pM,ih,pS,gF]
noncomputable def wiL(pb pk:Addr)(span:Int)(g:List zd)(p:Addr)(u v w:Option AV):Loc:=[some (.ref pb),some (.ref pk),some (.int span),some (gAV g),some (.lst ((ups false g).map .int)),some (.lst ((ups true g).map .int)),some (.ref p),u,v,w]
def Wi(Y:AHeap)(p:Addr)(L:(Nat->Option AV)->Loc)(N c:Nat){α:Type}(W xs:List α)(b:List Mt)(l:Loc)(Y':AHeap):Prop:=(∃U,l=L U)/\Y'=Y.set p (.list (b.map zu))/\b.length+c*xs.length<=N/\∀x∈xs,x∈W
section
variable{pb pk p:Addr}{es fs:List Ent}{span:Int}{g:List zd}{I:AHeap->Prop}{K:Loc->AHeap->Prop}{S:zT}{d N:Nat}{z:Nat×Nat}{lr:List Int}{l:Loc}{Y':AHeap}
theorem wi3(G:Gd X (hK P))(hd:d<571)(hb:Y pb=some (.list (es.map zz)))(hk:Y pk=some (.list (fs.map zz)))(he:EsOk es)(hf:EsOk fs)(hg:GOk g es.length fs.length)(hp:Y p=none)(hI:∀Y,I Y)(hN:N<=100000)(hz:z∈szs)(hlr:lr∈qy (ups false g) z.1){rr:List Int}{ws:List (List Int)}{a:List Mt}
  (h:Wi Y p (λU=>wiL pb pk span g p (some (zi5 z)) (some (jE lr)) (U 0)) N 1 (qy (ups true g) z.2) (rr::ws) a l Y')(hK:∀l' Y',Wi Y p (λU=>wiL pb pk span g p (some (zi5 z)) (some (jE lr)) (U 0)) N 1 (qy (ups true g) z.2) ws (a++if zaW es fs span (lr,rr) then [(lr,rr)] else []) l' Y'->K l' Y') :
  ∃l',jL (.one 9) (jE rr) l=some l'/\zdu X ⟨d,false⟩ l' (Gy I K S) Gx Y':=by
 refine zB h λhl hs hle hw=>z8 hl λU el=>?_;have hw:=fM.mp hw;clear h;subst el hs;rw[fH] at hle;have hzl:∀z∈szs,z.1<=3/\z.2<=3/\min z.1 z.2=1:=by decide
 refine zZ (hzl z hz) λz1 z2 z3=>jT (mem_rowsN.mp hlr) λm1 m2=>jT (mem_rowsN.mp hw.1) λm3 m4=>?_;refine zc _ rfl ?_;refine zqC G (fY hd (by decide)) (m:=(lr,rr)) (zL hp _ _ hb) (zL hp _ _ hk) he hf (by dsimp only;exact zCb z3 m1 m3) (by dsimp only;exact zCS z1 z2 m1 m3) ⟨m2.1,λp hp=>hg.inn _ (ups_mem.mp (m2.2 p hp))⟩ ⟨m4.1,λp hp=>hg.inn _ (ups_mem.mp (m4.2 p hp))⟩ ?_;cases hfit:zaW es fs span (lr,rr) with
 | true=>
  rw[hfit,if_pos rfl] at hK;exact zk (AHeap.wA ..) (zk (AHeap.wA ..) (zD (by rw[fC];exact zvE hN hle) ⟨hI _,hK _ _ (zp ⟨λ_=>_,rfl⟩ (by rw[fR];exact jX) (by rw[fF,fV];exact zvz hle) hw.2)⟩))
 | false=>
  rw[hfit,if_neg pU,gT] at hK;exact⟨hI _,hK _ _ (zp ⟨λ_=>_,rfl⟩ rfl (zvA hle) hw.2)⟩
theorem zmZ{fit:Mt->Bool}{bs lr:List Int}(h:bs.length<=8)(k:Nat):(qI fit bs k lr).length<=8 ^ k:=by
 unfold qI;rw[fC];exact fE (pE ..) (zak h k)
theorem zj9{fit:Mt->Bool}{bs lr:List Int}{k:Nat}:(qy bs k).flatMap (λr=>if fit (lr,r) then [(lr,r)] else [])=qI fit bs k lr:=by
 unfold qI;generalize qy bs k=rs
 induction rs with
 | nil=>rfl
 | cons r rs ih=>
  rw[pS,fA9,ih];cases fit (lr,r)<;>rfl
theorem wi2(G:Gd X (hK P))(hd:d<571)(hb:Y pb=some (.list (es.map zz)))(hk:Y pk=some (.list (fs.map zz)))(he:EsOk es)(hf:EsOk fs)(hg:GOk g es.length fs.length)(hp:Y p=none)(hI:∀Y,I Y)(hN:N<=90000)(hz:z∈szs){ys:List (List Int)}{c:List Mt}
  (h:Wi Y p (λU=>wiL pb pk span g p (some (zi5 z)) (U 0) (U 1)) N (8 ^ z.2) (qy (ups false g) z.1) (lr::ys) c l Y')(hK:∀l' Y',Wi Y p (λU=>wiL pb pk span g p (some (zi5 z)) (U 0) (U 1)) N (8 ^ z.2) (qy (ups false g) z.1) ys (c++qI (zaW es fs span) (ups true g) z.2 lr) l' Y'->K l' Y') :
  ∃l',jL (.one 8) (jE lr) l=some l'/\zdt X ⟨d,false⟩ l' (Gy I K S) Gx Y':=by
 refine zB h λhl hs hle hy=>z8 hl λU el=>?_;have hy:=fM.mp hy;clear h;subst el;rw[fH,Nat.mul_succ] at hle;have hzl:∀z∈szs,z.2<=3/\8 ^ z.2<=512:=by decide
 have l2:=q7 (s:=true) hg.few;have r2:=zak l2 z.2;refine zc _ rfl ?_;refine zeQ G (fY hd (by decide)) l2 (hzl z hz).1 ?_;refine zw (Wi Y p (λU=>wiL pb pk span g p (some (zi5 z)) (some (jE lr)) (U 0)) (c.length+8 ^ z.2) 1 (qy (ups true g) z.2)) (λa r=>a++if zaW es fs span (lr,r) then [(lr,r)] else []) (λrr ws a l Y' K' S_ h hK'=>wi3 G hd hb hk he hf hg hp (λ_=>trivial) (zvF hN hle) hz hy.1 h hK') (b:=c) (λl Y' h=>?_) (zp ⟨λ_=>_,rfl⟩ hs (by rw[fCY];exact fAW r2 _) (λr hr=>hr));refine zB h λhl hs _ _=>z8 hl λU el=>?_;rw[jN,zj9] at hs;have hm:=zmZ (fit:=zaW es fs span) (lr:=lr) l2 z.2;exact⟨hI _,hK _ _ (zp ⟨λi=>[_,_].getD i none,el⟩ hs (by rw[fF];exact zvG hle hm) hy.2)⟩
theorem wi1(G:Gd X (hK P))(hd:d<571)(hb:Y pb=some (.list (es.map zz)))(hk:Y pk=some (.list (fs.map zz)))(he:EsOk es)(hf:EsOk fs)(hg:GOk g es.length fs.length)(hp:Y p=none)(hI:∀Y,I Y){xs:List (Nat×Nat)}{b:List Mt}
  (h:Wi Y p (λU=>wiL pb pk span g p (U 0) (U 1) (U 2)) 20480 4096 szs (z::xs) b l Y')(hK:∀l' Y',Wi Y p (λU=>wiL pb pk span g p (U 0) (U 1) (U 2)) 20480 4096 szs xs (b++zl9 (zaW es fs span) (ups false g) (ups true g) z) l' Y'->K l' Y') :
  ∃l',jL (.one 7) (zi5 z) l=some l'/\zds X ⟨d,false⟩ l' (Gy I K S) Gx Y':=by
 refine zB h λhl hs hle hx=>z8 hl λU el=>?_;have hx:=fM.mp hx;clear h;subst el;rw[fH] at hle;have hzl:∀z∈szs,z.1<=3/\8 ^ z.1*8 ^ z.2<=4096:=by decide
 have l1:=q7 (s:=false) hg.few;have r1:=fE (gM (8 ^ z.2) (zak l1 z.1)) (hzl z hx.1).2;refine zc _ rfl ?_;refine zeQ G (fY hd (by decide)) l1 (hzl z hx.1).1 ?_;refine zw (Wi Y p (λU=>wiL pb pk span g p (some (zi5 z)) (U 0) (U 1)) (b.length+4096) (8 ^ z.2) (qy (ups false g) z.1)) (λc r=>c++qI (zaW es fs span) (ups true g) z.2 r) (λlr ys c l Y' K' S_ h hK'=>wi2 G hd hb hk he hf hg hp (λ_=>trivial) (zvx hle) hx.1 h hK') (b:=b) (λl Y' h=>?_) (zp ⟨λi=>[_,_].getD i none,rfl⟩ hs (by rw[Nat.mul_comm];exact fAW r1 _) (λr hr=>hr));refine zB h λhl hs hle' _=>z8 hl λU el=>?_;rw[jN] at hs hle';exact⟨hI _,hK _ _ (zp ⟨λi=>[_,_,_].getD i none,el⟩ hs (by have hle':(b++zl9 (zaW es fs span) (ups false g) (ups true g) z).length<=b.length+4096:=fE (fAC _ _) hle';exact zFy hle hle') hx.2)⟩
end
theorem znH(G:Gd X (hK P))(hd:n<570){pb pk:Addr}{es fs:List Ent}{span:Int}{g:List zd}(hb:Y pb=some (.list (es.map zz)))(hk:Y pk=some (.list (fs.map zz)))(he:EsOk es)(hf:EsOk fs)(hg:GOk g es.length fs.length)
  (q:Q (.lst ((win es fs span g).map zu)) Y):CallOk X 142 ⟨n,false⟩ [.ref pb,.ref pk,.int span,gAV g] Q Z Y:=by
 refine zoO G (fY hd (by decide)) λL=>?_;have lg:=hg.few;have e1:∀s,(g.filter λm=>m.1==s).map (λm:zd=>AV.int m.2)=(zaV s g).map .int:=λs=>by unfold zaV;rw[gC];rfl
 refine zR (λm:zd=>m.1==false) (λm=>.int m.2) (λ_=>rfl) (λ_ _=>rfl) (λm hm R q=>?_) (λm hm _ R q=>q) trivial (zjg lg) ?_
 .obtain⟨b,i⟩:=m;cases b<;>exact q
 rw[e1];refine zlQ (λp hp=>(hg.inn _ (side_mem.mp hp)).1) ?_;refine zR (λm:zd=>m.1==true) (λm=>.int m.2) (λ_=>rfl) (λ_ _=>rfl) (λm hm R q=>?_) (λm hm _ R q=>q) trivial (zjg lg) ?_
 .obtain⟨b,i⟩:=m;cases b<;>exact q
 rw[e1];refine zlQ (λp hp=>(hg.inn _ (side_mem.mp hp)).1) ?_;intro p hp;change zhX _ _ _ _ _ (szs.map zi5) _ _;refine zw (Wi Y p (λU=>wiL pb pk span g p (U 0) (U 1) (U 2)) 20480 4096 szs) (λb z=>b++zl9 (zaW es fs span) (ups false g) (ups true g) z) (λz xs b l Y' K S_ h hK=>wi1 (G.push L) (gZ hd) hb hk he hf hg hp (λ_=>trivial) h hK) (b:=[]) (λl Y' h=>?_) (zp ⟨λi=>[_,_,_].getD i none,rfl⟩ rfl (by decide) (λz hz=>hz));refine zB h λhl hs _ _=>z8 hl λU el=>?_;rw[jN,fAH] at hs;subst el hs;clear h;refine ze (zA (AHeap.wA ..)) ?_;refine zeV (G.push L) (zvV hd) (λx hx=>(zd2 hg hx).1) ?_;exact Ends.drop (zL hp) q
end
noncomputable def zfo(ms:List Mt)(r:List zd):List (List zd):=ms.filterMap (jl r)
noncomputable def jQ(ms:List Mt)(r:List zd):List (List zd):=match r with|[]=>[]|_::t=>t::zfo ms r
noncomputable def zbP(row nx:List (List zd)):List (List zd):=nx.foldl (λw b=>if b∈w then w else w++[b]) row
noncomputable def zJ(ms:List Mt)(g:List zd):Nat->List (List zd)
 | 0=>[g]
 | k+1=>match (zJ ms g k)[k]? with|some r=>zbP (zJ ms g k) (jQ ms r)|none=>zJ ms g k
theorem zcp{r b:List zd}{m:Mt}(h:jl r m=some b):b.Sublist r.tail:=by
 unfold jl at h;split at h
 .exact absurd (Eq.symm h) (fP _)
 .rename_i x t
  split at h
  .rename_i hc
   obtain rfl:=Hy h;rw[fA9];have:(!decide (x∈zf m))=false:=by simp[hc.1]
   rw[this];simp only[gK,if_false,List.tail_cons];exact pL
  .exact absurd (Eq.symm h) (fP _)
theorem zc5{ms:List Mt}{r b:List zd}(h:b∈jQ ms r):b.Sublist r.tail:=by
 unfold jQ at h;split at h
 .cases h
 .rename_i x t
  rcases fJ.mp h with rfl|h
  .exact List.Sublist.refl _
  .refine zb (fBV.mp h) λm _ hm=>?_;exact zcp hm
theorem qi{ms:List Mt}{r b:List zd}(h:b∈jQ ms r):b.length<r.length:=by
 have h1:=(zc5 h).length_le;cases r with
 | nil=>cases h
 | cons x t=>simp at h1 ⊢;exact zEi h1
noncomputable def zpV:List zd->List (List zd)
 | []=>[[]]
 | x::t=>zpV t++(zpV t).map (x::·)
theorem zi4:∀l:List zd,(zpV l).length=2 ^ l.length
 | []=>rfl
 | x::t=>by simp only[zpV,fF,fC,zi4 t,fH];lia
theorem zpe{l b:List zd}(h:b.Sublist l):b∈zpV l:=by
 induction h with
 | slnil=>exact fG.mpr rfl
 | cons a h ih=>exact pB _ ih
 | cons_cons a h ih=>exact gH _ (fO.mpr (zc _ ih rfl))
theorem zbl{α:Type}[DecidableEq α]{l:List α}:∀{u:List α},l.Nodup->(∀x∈l,x∈u)->l.length<=u.length:=by
 induction l with
 | nil=>exact λ_ _=>fX _
 | cons a l ih=>
  intro u hn hs;have ha:=hs a fA;obtain⟨hn1,hn2⟩:=fQ.mp hn;have:=ih (u:=u.erase a) hn2 λx hx=>(List.mem_erase_of_ne λe:x=a=>hn1 (by rw[<-e];exact hx)).mpr (hs x (fB _ hx));rw[fC2 ha] at this;have h0:0<u.length:=List.length_pos_of_mem ha;simp only[fH];exact zEh this h0
theorem zqH(nx:List (List zd)):∀(row:List (List zd)),∃ex,zbP row nx=row++ex:=by
 induction nx with
 | nil=>exact λrow=>⟨[],(gT _).symm⟩
 | cons b nx ih=>
  intro row;unfold zbP;rw[pM];split
  .exact ih row
  .obtain⟨ex,h⟩:=ih (row++[b]);exact⟨b::ex,by unfold zbP at h;rw[h,gF];rfl⟩
theorem zjK(nx:List (List zd)):∀(row:List (List zd)),row.Nodup->(zbP row nx).Nodup:=by
 induction nx with
 | nil=>exact λrow h=>h
 | cons b nx ih=>
  intro row h;unfold zbP;rw[pM];split
  .exact ih row h
  .rename_i hb
   refine ih (row++[b]) ?_;rw[gR];exact zo h (fQ.mpr ⟨gD,.nil⟩) (λx hx y hy e=>hb (by simp at hy;rw[<-hy,<-e];exact hx))
theorem zh0{b:List zd}(nx:List (List zd)):∀(row:List (List zd)),b∈zbP row nx↔b∈row\/b∈nx:=by
 induction nx with
 | nil=>exact λrow=>⟨.inl,λh=>h.resolve_right gD⟩
 | cons c nx ih=>
  intro row;unfold zbP;rw[pM];split
  .rename_i hc
   have:=ih row;unfold zbP at this;rw[this,fJ];exact⟨λh=>h.elim .inl λh=>.inr (.inr h),λh=>h.elim .inl λh=>h.elim (λe=>.inl (e▸hc)) .inr⟩
  .have:=ih (row++[c]);unfold zbP at this;rw[this,fT,fG,fJ];exact⟨λh=>h.elim (λh=>h.elim .inl λh=>.inr (.inl h)) λh=>.inr (.inr h),λh=>h.elim (λh=>.inl (.inl h)) λh=>h.elim (λh=>.inl (.inr h)) .inr⟩
section
variable{ms:List Mt}{g:List zd}
theorem zaM{k:Nat}{r:List zd}(h:(zJ ms g k)[k]? = some r):zJ ms g (k+1)=zbP (zJ ms g k) (jQ ms r):=by
 show (match (zJ ms g k)[k]? with|some r=>zbP (zJ ms g k) (jQ ms r)|none=>zJ ms g k)=_;rw[h]
theorem zpC(k j:Nat):∃ex,zJ ms g (k+j)=zJ ms g k++ex:=by
 induction j with
 | zero=>exact⟨[],(gT _).symm⟩
 | succ j ih=>
  refine z8 ih λex h=>?_;show ∃ex,(match (zJ ms g (k+j))[k+j]? with|some r=>zbP (zJ ms g (k+j)) (jQ ms r)|none=>zJ ms g (k+j))=_;cases (zJ ms g (k+j))[k+j]? with
  | some r=>exact z8 (zqH (jQ ms r) (zJ ms g (k+j))) λex' h'=>⟨ex++ex',h'.trans (by rw[h,gF])⟩
  | none=>exact⟨ex,h⟩
theorem zcF{k n:Nat}(h:k<=n):∃ex,zJ ms g n=zJ ms g k++ex:=by
 obtain⟨j,rfl⟩:=Nat.exists_eq_add_of_le h;exact zpC k j
theorem qQ:∀k,(zJ ms g k).Nodup
 | 0=>(fQ.mpr ⟨gD,.nil⟩)
 | k+1=>by
  show (match (zJ ms g k)[k]? with|some r=>zbP (zJ ms g k) (jQ ms r)|none=>zJ ms g k).Nodup;split
  .exact zjK _ _ (qQ k)
  .exact qQ k
theorem zai(k:Nat):∀r∈zJ ms g k,r.Sublist g:=by
 induction k with
 | zero=>intro r h;have:r=g:=fG.mp h;subst this;exact List.Sublist.refl _
 | succ k ih=>
  intro r h;have h:r∈(match (zJ ms g k)[k]? with|some r=>zbP (zJ ms g k) (jQ ms r)|none=>zJ ms g k):=h;split at h
  .rename_i r' hr'
   rcases(zh0 _ _).mp h with h|h
   .exact ih r h
   .exact((zc5 h).trans (List.tail_sublist _)).trans (ih r' (fAB hr'))
  .exact ih r h
theorem zho{w:List (List zd)}(hn:w.Nodup)(hs:∀r∈w,r.Sublist g)(hg:g.length<=8):w.length<=256:=by
 refine fE (zbl hn λx hx=>zpe (hs x hx)) ?_;rw[zi4];exact fE (Nat.pow_le_pow_right (by decide) hg) (by decide)
def Turns(ms:List Mt)(g:List zd)(k:Nat):Prop:=k<=(zJ ms g k).length/\∀j,j<k->j<(zJ ms g j).length
theorem Turns.zero:Turns ms g 0:=⟨fX _,λj h=>absurd h (fBT j)⟩
theorem Turns.succ{k:Nat}(h:Turns ms g k)(hk:k<(zJ ms g k).length):Turns ms g (k+1):=by
 refine⟨?_,λj hj=>?_⟩
 .obtain⟨ex,e⟩:=zcF (ms:=ms) (g:=g) (fBJ k);rw[e,fF];exact zEj hk
 .rcases Nat.lt_or_ge j k with h1|h1
  .exact h.2 j h1
  .have:j=k:=by exact zEg hj h1
   subst this;exact hk
def End(ms:List Mt)(g:List zd)(n:Nat):Prop:=Turns ms g n/\(zJ ms g n).length<=n
theorem End.closed{n:Nat}(h:End ms g n){r b:List zd}(hr:r∈zJ ms g n)(hb:b∈jQ ms r):b∈zJ ms g n:=by
 obtain⟨j,hj⟩:=fAL.mp hr;have hl:j<(zJ ms g n).length:=(fW.mp hj).1;have hjn:j<n:=pI hl h.2;have hjj:=h.1.2 j hjn;obtain⟨ex,e⟩:=zcF (ms:=ms) (g:=g) (fBA hjn);have hj':(zJ ms g j)[j]? = some r:=by rw[e,pF hjj] at hj;exact hj
 obtain⟨ex',e'⟩:=zcF (ms:=ms) (g:=g) (show j+1<=n from hjn);rw[e'];refine pB _ ?_;rw[zaM hj'];exact(zh0 _ _).mpr (.inr hb)
end
def IsMin(i:Int)(l:List Int):Prop:=i∈l/\∀b∈l,i<=b
theorem IsMin.vP{i j:Int}{l:List Int}(h:IsMin i l)(h':IsMin j l):i=j:=by
 have:=h.2 j h'.1;have:=h'.2 i h.1;exact zDS (by assumption) this
theorem zej(l:List Int):∀(a:Int),IsMin (l.foldl min a) (a::l):=by
 induction l with
 | nil=>exact λa=>⟨fA,λb hb=>(fG.mp hb)▸fA5 _⟩
 | cons x l ih=>
  intro a;have h:=ih (min a x);have h0:l.foldl min (min a x)<=min a x:=h.2 _ fA;refine⟨?_,fM.mpr ⟨zDU h0,fM.mpr ⟨zDV h0,λb hb=>h.2 b (fB _ hb)⟩⟩⟩
  rcases fJ.mp h.1 with e|hm
  .rw[pM,e]
   rcases fC7 a x with q|q
   .rw[fCG q];exact fA
   .rw[fB8 q];exact fB _ fA
  .exact fB _ (fB _ hm)
noncomputable def lvF(ms:List Mt):Nat->List zd->Int
 | 0,_=>0
 | n+1,[]=>0
 | n+1,x::t=>((zfo ms (x::t)).map (lvF ms n)).foldl min (1+lvF ms n t)
theorem zs6(ms:List Mt)(n:Nat):∀(m:Nat) (r:List zd),r.length<=n->r.length<=m->lvF ms n r=lvF ms m r:=by
 induction n with
 | zero=>
  intro m r h _;rw[fAR (fDE.mp h)];cases m<;>rfl
 | succ n ih=>
  intro m r h1 h2;cases r with
  | nil=>cases m<;>rfl
  | cons x t=>
   cases m with
   | zero=>exact absurd h2 (fBK _)
   | succ m=>
    have h1:t.length+1<=n+1:=h1;have h2:t.length+1<=m+1:=h2;have e:(zfo ms (x::t)).map (lvF ms n)=(zfo ms (x::t)).map (lvF ms m):=pK λb hb=>by
     have h:b.length<t.length+1:=qi (ms:=ms) (r:=x::t) (b:=b) (fB _ hb);exact ih m b (zrT h1 h) (zrT h2 h)
    simp only[lvF];rw[e,ih m t (zrM h1) (zrM h2)]
structure Lv(ms:List Mt)(lv:List zd->Int):Prop where
 nil:lv []=0
 cons:∀x t,IsMin (lv (x::t)) ((1+lv t)::(zfo ms (x::t)).map lv)
noncomputable def jI(ms:List Mt)(r:List zd):Int:=lvF ms r.length r
theorem zsd(ms:List Mt):Lv ms (jI ms):=by
 refine⟨rfl,λx t=>?_⟩;have e:(zfo ms (x::t)).map (jI ms)=(zfo ms (x::t)).map (lvF ms t.length):=by
  refine pK λb hb=>zs6 ms _ _ b (fN _) ?_;have:=qi (ms:=ms) (r:=x::t) (b:=b) (fB _ hb);simp at this;exact ztN this
 rw[e];exact zej _ _
theorem zdV(ms:List Mt)(r:List zd):(tk ms r).map (·.2)=zfo ms r:=by
 unfold tk zfo;rw[List.map_filterMap]
 congr 1;funext m
 cases jl r m<;>rfl
theorem zkT{ms:List Mt}{r:List zd}:(tk ms r).length<=ms.length:=List.length_filterMap_le _ _
section
variable{kvs:Tab}{k k':List zd}{v:AV}
theorem Tab.at_some(h:k∈kvs.map (·.1)):(kvs.at k).isSome=true:=by
 unfold Tab.at;rw[Option.isSome_map,List.find?_isSome];refine zb (fO.mp h) λx hx e12_2=>?_;subst e12_2;exact zc x hx (by simp)
theorem Tab.w5(h:k∉kvs.map (·.1)):kvs.at k=none:=by
 unfold Tab.at;rw[Option.map_eq_none_iff,List.find?_eq_none];intro x hx e;exact h (fO.mpr (zc x hx (by simpa using e)))
theorem Tab.vC:(kvs.at k).isSome=decide (k∈kvs.map (·.1)):=by
 by_cases h:k∈kvs.map (·.1)
 .rw[Tab.at_some h,H0 h]
 .rw[Tab.w5 h,Hz h];rfl
theorem Tab.wZ(h:k∉kvs.map (·.1)):(kvs.put k v).map (·.1)=kvs.map (·.1)++[k]:=by
 unfold Tab.put;rw[Tab.w5 h];simp
theorem Tab.w0(h:k∈kvs.map (·.1)):(kvs.put k v).map (·.1)=kvs.map (·.1):=by
 unfold Tab.put;rw[if_pos (Tab.at_some h),gC];apply pK;intro x _;simp only[Function.comp];split<;>rfl
theorem Tab.wV:(kvs.put k v).at k'=if k'=k then some v else kvs.at k':=by
 unfold Tab.put;split
 .rename_i hs
  induction kvs with
  | nil=>simp[Tab.at] at hs
  | cons x kvs ih=>
   unfold Tab.at at hs ih ⊢;rw[gJ,pX,pX];rw[pX] at hs
   by_cases hx:x.1=k
   .rw[if_pos hx]
    by_cases hk:k'=k
    .rw[if_pos hk];simp[hx,hk]
    .rw[if_neg hk];have h1:decide (x.1=k')=false:=Hz λe=>hk (e.symm.trans hx);simp only[h1];clear hs ih
     induction kvs with
     | nil=>rfl
     | cons y kvs ih2=>
      rw[gJ,pX,pX]
      by_cases hy:y.1=k
      .rw[if_pos hy];have h2:decide (y.1=k')=false:=Hz λe=>hk (e.symm.trans hy);simp only[h2];exact ih2
      .rw[if_neg hy]
       by_cases hy':y.1=k'
       .simp[hy']
       .simp only[Hz hy'];exact ih2
   .rw[if_neg hx]
    by_cases hx':x.1=k'
    .have hk:¬k'=k:=λe=>hx (hx'.trans e);rw[if_neg hk];simp[hx']
    .have h2:decide (x.1=k)=false:=Hz hx;simp only[h2] at hs;simp only[Hz hx'];exact ih hs
 .rename_i hs
  unfold Tab.at at hs ⊢;rw[List.find?_append]
  by_cases hk:k'=k
  .rw[if_pos hk];have:(kvs.find? λx=>decide (x.1=k'))=none:=by
    rw[hk];cases hf:kvs.find? λx=>decide (x.1=k) with
    | none=>rfl
    | some y=>rw[hf] at hs;exact absurd rfl hs
   rw[this];simp[hk]
  .rw[if_neg hk];have h1:decide (k=k')=false:=Hz λe=>hk e.symm;simp[pX,h1]
end
noncomputable abbrev zkb(w:List (List zd)):Tab:=w.map λr=>(r,.bool true)
theorem ziz(w:List (List zd)):(zkb w).map (·.1)=w:=by rw[gC];simp[Function.comp_def]
theorem zrc{w:List (List zd)}{b:List zd}(h:b∉w):(zkb w).put b (.bool true)=zkb (w++[b]):=by
 unfold Tab.put;rw[Tab.w5 (by rw[ziz];exact h)];simp[zkb]
theorem zug{ms:List Mt}{done rest:List (List zd)}{r b:List zd}(hs:(done++r::rest).Pairwise λx y=>x.length<=y.length)(hb:b∈done++r::rest)(hn:b∈jQ ms r):b∈done:=by
 have hlt:=qi hn
 rcases fT.mp hb with h|h
 .exact h
 .have h2:=(gG.mp hs).2.1
  rcases fJ.mp h with rfl|h
  .exact absurd hlt (fBR _)
  .exact absurd ((gE.mp h2).1 b h) (fDG.mpr hlt)
section
variable{P:Hl}{X:Cx}{n:Nat}{Q:zl}{Z:XP}{Y:AHeap}
def Sub(Y Y':AHeap):Prop:=∀a o,Y a=some o->Y' a=some o
theorem Sub.put{Y Y':AHeap}{p:Addr}{o:AO}(e:Sub Y Y')(h:Y p=none):Sub Y (Y'.set p o):=λa o' q=>by
 rw[AHeap.wB _ _ (by rintro rfl;rw[h] at q;cases q)];exact e a o' q
theorem Sub.none{Y Y':AHeap}(h:Sub Y Y'){p:Addr}(e:Y' p=none):Y p=none:=by
 cases q:Y p with
 | none=>rfl
 | some o=>rw[h p o q] at e;exact absurd e (fP _)
theorem zcH(r:List zd):∀x∈r.map zI,Flat 1 x:=λx hx=>by refine zb (fO.mp hx) λm _ e0_2=>?_;subst e0_2;exact zgZ m
theorem zcI{r:List zd}{R:Bool->AHeap->Prop}(q:R r.isEmpty Y):eqG (zC r) (.tup []) R Y:=zlf (zcH r) (by decide) (by rw[fC5];exact q)
structure Reach(ms:List Mt)(g:List zd)(W:List (List zd)):Prop where
 self:g∈W
 closed:∀r∈W,∀b∈jQ ms r,b∈W
 sub:∀r∈W,r.Sublist g
theorem ziR{r:Bool}{xs:List (List zd)}(q:∀ys:List (List zd),ys.Perm xs->ys.Pairwise (λx y=>x.length<=y.length)->mkL r (ys.map zC) Q Y):zcL r (xs.map zC) Q Y:=by
 have un:∃u:AV->List zd,∀x,u (zC x)=x:=⟨λv=>match v with
  | .tup l=>l.map λv=>match v with
   | .tup [.str s,.int k]=>(Nat.beq s 1,k)
   | _=>(false,0)
  | _=>[],λx=>by
   show (x.map zI).map _=x;rw[gC];refine(pK λm _=>?_).trans (fBY x);obtain⟨b,i⟩:=m;cases b<;>rfl⟩
 obtain⟨u,hu⟩:=un;unfold zcL;refine⟨λv hv=>by refine zb (fO.mp hv) λx _ e3_2=>?_;subst e3_2;exact⟨_,rfl⟩,λys h1 h2=>?_⟩;obtain⟨p1,p2⟩:=zg7 hu h1;rw[p2] at h2 ⊢;refine q _ p1 ?_;rw[fA4] at h2;refine h2.imp λ{a b} h=>?_;have e:∀x:List zd,zkU (zC x)=x.length:=λx=>fC ..;rw[e,e] at h;exact h
noncomputable def tbL(g:List zd)(ms:List Mt)(rm rr:Addr)(k:Int)(a b c d e:Option AV):Loc:=[some (gAV g),some (.lst (ms.map zu)),some (zC g),some (.ref rm),some (.ref rr),some (.int k),a,b,c,d,e]
structure GrI(Y:AHeap)(g:List zd)(ms:List Mt)(rm rr:Addr)(k:Int)(a b:Option AV)(xs w:List (List zd))(l:Loc)(Y':AHeap):Prop where
 e:Sub Y Y'
 lr:Y' rr=some (.list (w.map zC))
 lm:Y' rm=some (.tdict (zkb w))
 hl:∃c,l=tbL g ms rm rr k a b c none none
 wn:w.Nodup
 ws:∀r∈w,r.Sublist g
 hx:∀b∈xs,b.Sublist g
theorem zqG{d:Dp}{g:List zd}{ms:List Mt}{rm rr:Addr}{k:Int}{a b:Option AV}(hgl:g.length<=8)(hm:Y rm=none)(hr:Y rr=none)(hn:rr≠rm){x:List zd}{xs w:List (List zd)}{l:Loc}{Y':AHeap}{I:AHeap->Prop}{K:Loc->AHeap->Prop}{S:zT}(hI:∀Y,I Y)
  (h:GrI Y g ms rm rr k a b (x::xs) w l Y')(hK:∀l' Y',GrI Y g ms rm rr k a b xs (if x∈w then w else w++[x]) l' Y'->K l' Y'):∃l',jL (.one 8) (zC x) l=some l'/\zbW X d l' (Gy I K S) Gx Y':=by
 refine z8 h.hl λc el=>?_;subst el;have hx:=fM.mp h.hx;have hw256:=zho h.wn h.ws hgl;refine zc _ rfl ?_;refine zlk h.lm ?_;rw[Tab.vC,ziz]
 by_cases hw:x∈w
 .rw[if_pos hw] at hK;rw[H0 hw];exact⟨hI _,hK _ _ ⟨h.e,h.lr,h.lm,⟨_,rfl⟩,h.wn,h.ws,hx.2⟩⟩
 .rw[if_neg hw] at hK;rw[Hz hw];refine zbn h.lm (by rw[fC];exact zvW hw256) ?_;rw[zrc hw];have lr3:=(AHeap.wB Y' (.tdict (zkb (w++[x]))) hn).trans h.lr;refine zk lr3 (zk lr3 (zD (by rw[fC];exact zy0 hw256) ?_));refine⟨hI _,hK _ _ ⟨(h.e.put hm).put hr,by rw[AHeap.wA,fR];rfl,by rw[AHeap.wB _ _ hn.symm,AHeap.wA],⟨_,rfl⟩,?_,?_,hx.2⟩⟩
  .exact gR.mpr ⟨h.wn,fQ.mpr ⟨gD,.nil⟩,λy hy z hz e=>hw (fG.mp hz▸e▸hy)⟩
  .exact λr h'=>(fT.mp h').elim (h.ws r) λh'=>fG.mp h'▸hx.1
structure LsI(Y:AHeap)(g:List zd)(ms:List Mt)(rm rr rl:Addr)(k:Int)(ys xs b:List (List zd))(l:Loc)(Y':AHeap):Prop where
 e:Sub Y Y'
 hy:b++xs=ys
 tb:∃kvs:Tab,Y' rl=some (.tdict kvs)/\kvs.map (·.1)=b/\∀k∈b,Tab.at kvs k=some (.int (jI ms k))
 hl:∃a b c e,l=tbL g ms rm rr k a b c (some (.ref rl)) e
theorem zq5{d:Nat}(G:Gd X (hK P))(hd:d<561){g:List zd}{ms:List Mt}{rm rr rl:Addr}{k:Int}(hm:∀m∈ms,zkc m)(hml:ms.length<=100000)(h0:Y rl=none){ys:List (List zd)}(hyn:ys.Nodup)(hyl:ys.length<=256)(hs:ys.Pairwise λx y=>x.length<=y.length)(hc:∀r∈ys,∀b∈jQ ms r,b∈ys)(h8:∀r∈ys,r.length<=8)
  {r:List zd}{xs b:List (List zd)}{l:Loc}{Y':AHeap}{I:AHeap->Prop}{K:Loc->AHeap->Prop}{S:zT}(hI:∀Y,I Y)(h:LsI Y g ms rm rr rl k ys (r::xs) b l Y')(hK:∀l' Y',LsI Y g ms rm rr rl k ys xs (b++[r]) l' Y'->K l' Y'):∃l',jL (.one 6) (zC r) l=some l'/\zez X ⟨d,false⟩ l' (Gy I K S) Gx Y':=by
 refine qU h.hl λa' b' c' c'' el=>?_;refine zh h.tb λkvs ll hk hv=>?_;subst el;have hy:=h.hy;have hry:r∈ys:=by rw[<-hy];exact gH _ fA
 have hrl:=h8 r hry;have hbl:b.length<=256:=by rw[<-hy,fF] at hyl;exact zzL hyl
 have hkl:kvs.length<=256:=by have:=congrArg List.length hk;rw[fC] at this;exact zAm hbl this
 have hnew:r∉b:=by
  rw[<-hy] at hyn;exact λh=>(gR.mp hyn).2.2 r h r fA rfl
 have hnew':r∉kvs.map (·.1):=by rw[hk];exact hnew
 have fin:∀Y2 (kv2:Tab) a b0 c c',Sub Y Y2->Y2 rl=some (.tdict kv2)->kv2.map (·.1)=b++[r]->Tab.at kv2 r=some (.int (jI ms r))->(∀b,b≠r->Tab.at kv2 b=Tab.at kvs b)->I Y2/\K (tbL g ms rm rr k a b0 c (some (.ref rl)) c') Y2:=λY2 kv2 a b0 c c' g1 g3 g4 g5 g6=>
  ⟨hI _,hK _ _ ⟨g1,by rw[gF];exact hy,zr kv2 g3 g4 (λz hz=>(fT.mp hz).elim (λh=>(g6 z λe=>hnew (e▸h)).trans (hv z h)) λh=>by rw[fG.mp h];exact g5),_,_,_,_,rfl⟩⟩
 have hav:∀b∈jQ ms r,Tab.at (kvs.put r (.int 0)) b=some (.int (jI ms b)):=λc hb=>by
  have hcm:=hc r hry c hb;rw[<-hy] at hs hcm;have hbm:=zug hs hcm hb;rw[Tab.wV,if_neg λe:c=r=>hnew (e▸hbm)];exact hv c hbm
 have hl1:(kvs.put r (.int 0)).length<=300:=by have:=Tab.w1 kvs r (.int 0);exact zAn hkl this
 have hk1:(kvs.put r (.int 0)).map (·.1)=b++[r]:=by rw[Tab.wZ hnew',hk]
 have hat:∀b,b≠r->Tab.at (kvs.put r (.int 0)) b=Tab.at kvs b:=λb hb=>by rw[Tab.wV,if_neg hb]
 have hat0:Tab.at (kvs.put r (.int 0)) r=some (.int 0):=by rw[Tab.wV,if_pos rfl]
 refine zc _ rfl ?_;refine zbn ll (zvW hkl) ?_;have e6:Sub Y (Y'.set rl (.tdict (kvs.put r (.int 0)))):=h.e.put h0;have l6:(Y'.set rl (.tdict (kvs.put r (.int 0)))) rl=some (.tdict (kvs.put r (.int 0))):=AHeap.wA ..;generalize Y'.set rl (.tdict (kvs.put r (.int 0)))=Y6 at e6 l6;generalize kvs.put r (.int 0)=kv1 at hav hl1 hk1 hat hat0 l6;refine zcI ?_;cases r with
 | nil=>exact fin _ _ _ _ _ _ e6 l6 hk1 hat0 hat
 | cons x t=>
  refine zaO G (fY hd (by decide)) (zvY hrl) hm hml ?_;have htl:=zkT (ms:=ms) (r:=x::t);refine zP (λz=>.int (jI ms z.2)) (λ_=>rfl) (λ_ _=>rfl) (λz hz R q=>zba l6 (hav _ (fB _ (by rw[<-zdV];exact gS hz))) q) trivial (ztS hml htl) ?_;refine zba (k:=t) l6 (hav t fA) ?_;refine zD (by rw[fC,fV];exact zwy hml htl) ?_;rw[show [AV.int (1+jI ms t)]++(tk ms (x::t)).map (λz=>AV.int (jI ms z.2))=((1+jI ms t)::(zfo ms (x::t)).map (jI ms)).map .int by rw[<-zdV,gC,gJ,gC];rfl];refine zgY (λe=>nomatch e) λM hM1 hM2=>?_;have hMv:M=jI ms (x::t):=IsMin.vP ⟨hM1,hM2⟩ ((zsd ms).cons x t);subst hMv;refine zbn l6 (zy3 hl1) ?_;exact fin _ _ _ _ _ _ (e6.put h0) (AHeap.wA ..) ((Tab.w0 (by rw[hk1];exact gH _ fA)).trans hk1) (by rw[Tab.wV,if_pos rfl]) λb hb=>by rw[Tab.wV,if_neg hb];exact hat b hb
structure TbI(Y:AHeap)(g:List zd)(ms:List Mt)(rm rr:Addr)(k:Nat)(Y':AHeap):Prop where
 ht:Turns ms g k
 e:Sub Y Y'
 lr:Y' rr=some (.list ((zJ ms g k).map zC))
 lm:Y' rm=some (.tdict (zkb (zJ ms g k)))
def TbJ(Y:AHeap)(g:List zd)(ms:List Mt)(rm rr:Addr)(n:Nat)(l:Loc)(Y':AHeap):Prop:=∃k:Nat,n=257-k/\TbI Y g ms rm rr k Y'/\∃a b c,l=tbL g ms rm rr k a b c none none
theorem zpX(G:Gd X (hK P))(hd:n<560){g:List zd}{ms:List Mt}(hgl:g.length<=8)(hm:∀m∈ms,zkc m)(hml:ms.length<=100000)
  (q:∀r kvs W,Y r=none->Reach ms g W->(∀k∈W,Tab.at kvs k=some (.int (jI ms k)))->Q (.ref r) (Y.set r (.tdict kvs))):CallOk X 159 ⟨n,false⟩ [gAV g,.lst (ms.map zu)] Q Z Y:=by
 refine zqX G (fY hd (by decide)) λL=>?_;intro rm hrm;refine zr g rfl (AHeap.wA ..) ?_;intro rr hrr;rw[jX] at hrr ⊢;have hrr0:Y rr=none:=Sub.none (zL hrm) hrr;have hnr:rr≠rm:=λe=>by rw[e,AHeap.wA] at hrr;exact absurd hrr (fP _)
 refine⟨TbJ Y g ms rm rr,257,⟨0,rfl,⟨.zero,λa o h=>zL hrr a o (zL hrm a o h),AHeap.wA ..,by rw[AHeap.wB _ _ hnr.symm,AHeap.wA];rfl⟩,_,_,_,rfl⟩,?_⟩;intro N l' Y' hR;refine zh hR λk eN H hR=>qD hR λa b c el=>?_;subst el eN;have hlen:(zJ ms g k).length<=256:=zho (qQ k) (zai k) hgl;refine ze (zA H.lr) ?_;rw[fC];refine qe (λhc=>?_) λhc=>?_
 .have hc:k<(zJ ms g k).length:=fBB.mp (H1 hc);obtain⟨r,hr⟩:∃r,(zJ ms g k)[k]? = some r:=⟨_,fU hc⟩
  have hrm':r∈zJ ms g k:=fAB hr;have hrg:=zai k r hrm';have hrl:r.length<=8:=fE hrg.length_le hgl;refine jv H.lr (ze (qA hr) ?_);have tail:∀c {S:zT},(∀l Y2,GrI Y g ms rm rr ((k:Int)+1) (some (zC r)) (some (.lst ((jQ ms r).map zC))) [] (zJ ms g (k+1)) l Y2->S .next l Y2)->zhX (λ_=>True) (.one 8) (zbW (X.push L)) ⟨n+1,false⟩ S ((jQ ms r).map zC) (tbL g ms rm rr ((k:Int)+1) (some (zC r)) (some (.lst ((jQ ms r).map zC))) c none none) Y':=λc S q=>
   zw (g:=zC) (GrI Y g ms rm rr ((k:Int)+1) (some (zC r)) (some (.lst ((jQ ms r).map zC)))) (λw b=>if b∈w then w else w++[b]) (λx xs w l Y2 K S_ h hK=>zqG hgl hrm hrr0 hnr (λ_=>trivial) h hK) (b:=zJ ms g k) (λl Y2 h=>q l Y2 (zaM hr▸h)) ⟨H.e,H.lr,H.lm,⟨_,rfl⟩,qQ k,zai k,λb hb=>((zc5 hb).trans (List.tail_sublist _)).trans hrg⟩
  have fin:∀{S:zT},(∀l Y2,TbJ Y g ms rm rr (257-(k+1)) l Y2->S .next l Y2)->∀l Y2,GrI Y g ms rm rr ((k:Int)+1) (some (zC r)) (some (.lst ((jQ ms r).map zC))) [] (zJ ms g (k+1)) l Y2->S .next l Y2:=λq l Y2 h=>
   z8 h.hl λc el=>q l Y2 ⟨k+1,rfl,⟨H.ht.succ hc,h.e,h.lr,h.lm⟩,_,_,_,el⟩
  have hlt:257-(k+1)<257-k:=zrR (a:=256) (pI hc hlen);refine zcI ?_;cases r with
  | nil=>exact zc _ hlt ⟨k+1,rfl,⟨H.ht.succ hc,H.e,by rw[zaM hr];exact H.lr,by rw[zaM hr];exact H.lm⟩,_,_,_,rfl⟩
  | cons x t=>
   refine zaO (G.push L) (zvU hd) (zvY hrl) hm hml ?_;have htl:=zkT (ms:=ms) (r:=x::t);refine zP (λz=>zC z.2) (λ_=>rfl) (λ_ _=>rfl) (λz hz R q=>q) trivial (ztS hml htl) ?_;refine zD (by rw[fC,fV];exact zwy hml htl) ?_;have e8:[AV.tup (List.drop (Int.toNat 1) (List.map zI (x::t)))]++(tk ms (x::t)).map (λz=>zC z.2)=(jQ ms (x::t)).map zC:=by
    show zC t::_=zC t::_;rw[<-zdV,gC];rfl
   rw[e8];refine tail c (fin ?_);exact λl Y2 h=>zc _ hlt h
 .have hE:End ms g k:=⟨H.ht,pQ.mp λh=>of_decide_eq_false hc (fBB.mpr h)⟩
  intro rl hrl;have hrl0:=H.e.none hrl;have hlr:rr≠rl:=λe=>by rw[<-e,H.lr] at hrl;exact absurd hrl (fP _)
  refine ze (zA ((AHeap.wB _ _ hlr).trans H.lr)) ?_;refine ziR λys hp hs=>?_;refine zw (g:=zC) (LsI Y g ms rm rr rl k ys) (λb x=>b++[x]) (λr xs b l Y2 K S_ h hK=>zq5 (G.push L) (gZ hd) hm hml hrl0 (hp.nodup_iff.mpr (qQ k)) (by rw[hp.length_eq];exact hlen) hs (λr hr b hb=>hp.mem_iff.mpr (hE.closed (hp.mem_iff.mp hr) hb)) (λr hr=>fE (zai k r (hp.mem_iff.mp hr)).length_le hgl) (λ_=>trivial) h hK) (b:=[]) (λl Y2 h=>?_) ⟨H.e.put hrl0,rfl,zr [] (AHeap.wA ..) rfl (λk hk=>nomatch hk),_,_,_,_,rfl⟩;rw[show ys.foldl (λb x=>b++[x]) []=ys by have:=jN (λx:List zd=>[x]) ys [];rw[this,fAH,List.flatMap_singleton']] at h;refine qU h.hl λa' b' c' c'' el=>zh h.tb λkvs ll hk hv=>?_;subst el;refine Ends.drop (Y':=Y.set rl (.tdict kvs)) (λa o ho=>?_) (q rl kvs ys hrl0 ⟨hp.mem_iff.mpr ?_,λr hr b hb=>hp.mem_iff.mpr (hE.closed (hp.mem_iff.mp hr) hb),λr hr=>zai k r (hp.mem_iff.mp hr)⟩ hv)
  .by_cases ha:a=rl
   .rw[ha,AHeap.wA] at ho;rw[ha,ll,ho]
   .rw[AHeap.wB _ _ ha] at ho;exact h.e a o ho
  .refine z8 (zcF (ms:=ms) (g:=g) (fX k)) λex e=>?_;rw[e];exact pB _ (fG.mpr rfl)
end
section
variable{P:Hl}{X:Cx}{n:Nat}{Q:zl}{Z:XP}{Y:AHeap}
theorem zaF(m:Mt):Flat 2 (zu m):=.tup λx hx=>by
 rcases fJ.mp hx with rfl|hx
 .exact zf0 m.1
 .rw[fG.mp hx];exact zf0 m.2
theorem zrz(z:Mt×List zd):Flat 3 (zry z):=.tup λx hx=>by
 rcases fJ.mp hx with rfl|hx
 .exact zaF z.1
 .rw[fG.mp hx];exact .tup (zcH z.2)
theorem zgz{xs:List AV}{k:Nat}{R:Bool->AHeap->Prop}(hf:∀x∈xs,Flat k x)(hk:k<100)(q:R xs.isEmpty Y):eqG (.lst xs) (.lst []) R Y:=by
 refine zcf (k:=k+1) (j:=1) (.lst hf) (.lst λx hx=>nomatch hx) hk (λh=>?_) λh=>?_
 .cases h;exact q
 .cases xs with
  | nil=>exact absurd rfl h
  | cons _ _=>exact q
noncomputable def zaR(ms:List Mt)(r:List zd):List (Mt×List zd):=(tk ms r).filter λz=>decide (jI ms z.2=jI ms r)
noncomputable def pkF(ms:List Mt)(n:Nat)(r:List zd):List Mt:=match n,r with
 | 0,_=>[]
 | _+1,[]=>[]
 | n+1,x::t=>match zaR ms (x::t) with
  | []=>pkF ms n t
  | z::_=>z.1::pkF ms n z.2
noncomputable def pk(ms:List Mt)(r:List zd):List Mt:=pkF ms r.length r
theorem qF{ms:List Mt}{r:List zd}{z:Mt×List zd}(h:z∈zaR ms r):r≠[]/\z.2∈jQ ms r/\z.1∈ms/\jl r z.1=some z.2:=by
 have h1:=(fZ.mp h).1;refine zb (fBV.mp h1) λm hm h2=>?_;refine zb (fAX.mp h2) λb h3 e1_2=>?_;subst e1_2;cases r with
 | nil=>cases h3
 | cons x t=>exact zp (λe=>nomatch e) (fB _ (fBV.mpr (zc m hm h3))) hm h3
theorem ztm(ms:List Mt):∀(n m:Nat) (r:List zd),r.length<=n->r.length<=m->pkF ms n r=pkF ms m r:=by
 intro n
 induction n with
 | zero=>intro m r h1 h2;rw[gY.mp (fDE.mp h1)];cases m<;>rfl
 | succ n ih=>
  intro m r h1 h2;cases r with
  | nil=>cases m<;>rfl
  | cons x t=>
   cases m with
   | zero=>cases h2
   | succ m=>
    rw[fH] at h1 h2;unfold pkF;cases hg:zaR ms (x::t) with
    | nil=>exact ih m t (zrM h1) (zrM h2)
    | cons z zs=>
     have h3:=qi (qF (ms:=ms) (r:=x::t) (z:=z) (by rw[hg];exact fA)).2.1;rw[fH] at h3;dsimp only;rw[ih m z.2 (zrT h1 h3) (zrT h2 h3)]
theorem zkn(ms:List Mt):pk ms []=[]:=rfl
theorem zg9{ms:List Mt}{x:zd}{t:List zd}(h:zaR ms (x::t)=[]):pk ms (x::t)=pk ms t:=by
 show pkF ms (t.length+1) (x::t)=_;unfold pkF;rw[h];rfl
theorem zha{ms:List Mt}{x:zd}{t:List zd}{z:Mt×List zd}{zs:List (Mt×List zd)}(h:zaR ms (x::t)=z::zs):pk ms (x::t)=z.1::pk ms z.2:=by
 have h3:=qi (qF (ms:=ms) (r:=x::t) (z:=z) (by rw[h];exact fA)).2.1;show pkF ms (t.length+1) (x::t)=_;unfold pkF;rw[h];dsimp only;rw[ztm ms t.length z.2.length z.2 (ztN h3) (fN _)];rfl
theorem zm5(G:Gd X (hK P))(hd:n<550){g:List zd}{ms:List Mt}(hgl:g.length<=8)(hm:∀m∈ms,zkc m)(hml:ms.length<=100000)(q:Q (.lst ((pk ms g).map zu)) Y):CallOk X 164 ⟨n,false⟩ [gAV g,.lst (ms.map zu)] Q Z Y:=by
 refine zoN G (fY hd (by decide)) λL=>?_;refine zpX (G.push L) (zyM hd) hgl hm hml λrt kvs W hrt hW hkv=>?_;intro rf hrf;have hrf0:Y rf=none:=Sub.none (zL hrt) hrf;have hne:rt≠rf:=by rintro rfl;rw[AHeap.wA] at hrf;exact absurd hrf (fP _)
 have e0:Sub Y ((Y.set rt (.tdict kvs)).set rf (.list [])):=λa o h=>zL hrf a o (zL hrt a o h);have lt0:((Y.set rt (.tdict kvs)).set rf (.list [])) rt=some (.tdict kvs):=by rw[AHeap.wB _ _ hne,AHeap.wA]
 have lf0:((Y.set rt (.tdict kvs)).set rf (.list [])) rf=some (.list (([]:List Mt).map zu)):=AHeap.wA ..;generalize (Y.set rt (.tdict kvs)).set rf (.list [])=Y0 at e0 lt0 lf0;refine⟨λn l' Y'=>∃(r:List zd) (fs:List Mt) (a5:Option AV),n=r.length/\Sub Y Y'/\Y' rf=some (.list (fs.map zu))/\Y' rt=some (.tdict kvs)/\r∈W/\fs++pk ms r=pk ms g/\fs.length+r.length<=8/\l'=[some (gAV g),some (.lst (ms.map zu)),some (.ref rt),some (zC r),some (.ref rf),a5],
  g.length,(zfh g [] _ rfl e0 lf0 lt0 hW.self rfl (by rw[gU];exact zvX hgl) rfl),?_⟩
 clear e0 lt0 lf0;intro N l' Y' hR1;refine zff hR1 λr fs a5 e0_3 e lf lt' hrW hpk hlen e0_10=>?_;subst e0_3;subst e0_10;refine zcI ?_;cases r with
 | nil=>
  rw[zkn,gT] at hpk;rw[<-hpk] at q;exact Ends.one e lf hrf0 q
 | cons x t=>
  refine zaO (G.push L) (zyN hd) (by rw[fH];exact zzN hlen) hm hml ?_;have hnx:∀z∈tk ms (x::t),z.2∈jQ ms (x::t):=λz hz=>fB _ (by rw[<-zdV];exact gS hz);have htl:=zkT (ms:=ms) (r:=x::t);refine zR (λz=>decide (jI ms z.2=jI ms (x::t))) zry (λ_=>rfl) (λ_ _=>rfl) (λz hz R q=>?_) (λz hz _ R q=>q) trivial (ztS hml htl) ?_
  .refine zba lt' (hkv _ (hW.closed _ hrW _ (hnx z hz))) ?_;refine zba lt' (hkv _ hrW) ?_;exact q
  refine zgz (k:=3) (λy hy=>by refine zb (fO.mp hy) λz _ e2_2=>?_;subst e2_2;exact zrz z) (by decide) ?_;cases hg:zaR ms (x::t) with
  | nil=>
   unfold zaR at hg;rw[hg];exact zaS t.length (by rw[fH];exact zqc) t fs _ rfl e lf lt' (hW.closed _ hrW t fA) (by rw[<-hpk,zg9 hg]) (zwb hlen) rfl
  | cons z zs=>
   have hz:=qF (ms:=ms) (r:=x::t) (z:=z) (by rw[hg];exact fA);have h3:=qi hz.2.1;have hps:=zha hg;unfold zaR at hg;rw[hg];refine zk lf ?_;refine zk lf ?_;refine zD (by rw[fC];exact zwa hlen) ?_;refine zaS z.2.length (by rw[fH];exact zwj h3) z.2 (fs++[z.1]) _ rfl (e.put hrf0) ?_ ?_ (hW.closed _ hrW _ hz.2.1) ?_ ?_ rfl
   .rw[AHeap.wA,fR];rfl
   .rw[AHeap.wB _ _ hne];exact lt'
   .rw[<-hpk,hps,gF];rfl
   .rw[fF,fV];exact zwF hlen h3
end
section
variable{P:Hl}{X:Cx}{n:Nat}{Q:zl}{Z:XP}{Y:AHeap}
structure Led where
 es:List Ent
 fs:List Ent
 span:Int
 tick:List Mt
 clos:List Mt
structure LA where
 self:Addr
 dx:Addr
 rd:Addr
 pb:Addr
 pk:Addr
 pt:Addr
 pc:Addr
noncomputable def zj2(a:LA)(D:Led):List (Nat×AV):=[(3,.int D.span),(4,.ref a.rd),(5,.ref a.pt),(6,.ref a.pc)]
structure LAt(Y:AHeap)(a:LA)(D:Led):Prop where
 s:Y a.self=some (.inst 245 a.dx)
 d:Y a.dx=some (.idict (zj2 a D))
 r:Y a.rd=some (.idict [(0,.ref a.pb),(1,.ref a.pk)])
 b:Y a.pb=some (.list (D.es.map zz))
 k:Y a.pk=some (.list (D.fs.map zz))
 t:Y a.pt=some (.list (D.tick.map zu))
 c:Y a.pc=some (.list (D.clos.map zu))
 dr:a.dx≠a.rd
 nd:[a.pb,a.pk,a.pt,a.pc].Nodup
def zm0(m:Mt):Prop:=SmM m/\m.1≠[]/\m.2≠[]
structure LOk(D:Led):Prop where
 es:EsOk D.es
 fs:EsOk D.fs
 few:D.es.length<=80/\D.fs.length<=80
 tick:∀m∈D.tick,zm0 m
 clos:∀m∈D.clos,zm0 m
 tl:D.tick.length<=1000
 cl:D.clos.length<=1000
noncomputable def Led.row(D:Led)(s:Bool):List Ent:=if s then D.fs else D.es
noncomputable def LA.row(a:LA)(s:Bool):Addr:=if s then a.pk else a.pb
noncomputable def Led.grps(D:Led):List (List zd):=Mine.Internal.grps D.es D.fs D.span
theorem LAt.row{a:LA}{D:Led}(h:LAt Y a D)(s:Bool):Y (a.row s)=some (.list ((D.row s).map zz)):=by
 cases s with
 | false=>exact h.b
 | true=>exact h.k
theorem zbs{a:LA}{D:Led}(h:LAt Y a D){s:Bool}(q:Q (.ref (a.row s)) Y):zcX a.rd (.str s.toNat) Q Y:=by
 refine z0 h.r ?_;cases s<;>exact q
theorem zbB(G:Gd X (hK P))(hd:n<570){a:LA}{D:Led}(h:LAt Y a D)(ho:LOk D)(q:Q (.lst (D.grps.map gAV)) Y):CallOk X 185 ⟨n,false⟩ [.ref a.self] Q Z Y:=by
 refine zgO G (fY hd (by decide)) λL=>?_;refine zn h.s h.d ?_;refine zbs (s:=false) h ?_;refine zn h.s h.d ?_;refine zbs (s:=true) h ?_;refine zn h.s h.d ?_;refine zmt (G.push L) (zvV hd) h.b h.k ho.es ho.fs ?_;exact Ends.same q
noncomputable def Led.holding(D:Led)(m:zd):List (List zd):=D.grps.filter λg=>decide (m∈g)
theorem grps_len{ts:List Tr}{span:Int}(b:List (List zd)×Option Int):(ts.foldl (qf span) b).1.length<=b.1.length+ts.length:=by
 induction ts generalizing b with
 | nil=>exact fN _
 | cons t ts ih=>
  have h:(qf span b t).1.length<=b.1.length+1:=by
   unfold qf zY;dsimp only;split
   .rename_i hg
    split at hg<;>simp_all
   .rename_i g hg
    have:(if zbG span b.2 t.1 then b.1++[[]] else b.1).length<=b.1.length+1:=by split<;>simp
    rw[fF,List.length_dropLast,fV];have hne:(if zbG span b.2 t.1 then b.1++[[]] else b.1)≠[]:=λe=>by rw[e] at hg;cases hg
    have:=fCK.mpr hne;exact zz3 (by assumption)
  have:=ih (qf span b t);exact zCX h this
theorem Led.grps_len{D:Led}(h:LOk D):D.grps.length<=10000:=by
 have h1:=Mine.Internal.grps_len (ts:=inO D.es D.fs) (span:=D.span) ([],none);have h2:=zax D.es D.fs;have:=h.few;unfold Led.grps Mine.Internal.grps;exact zCC h1 h2 this
theorem zdg(G:Gd X (hK P))(hd:n<560){a:LA}{D:Led}(h:LAt Y a D)(ho:LOk D){m:zd}{g:List zd}{gs:List (List zd)}(hg:D.holding m=g::gs)(q:Q (gAV g) Y):CallOk X 228 ⟨n,false⟩ [.ref a.self,.str m.1.toNat,.int m.2] Q Z Y:=by
 refine zjV G (fY hd (by decide)) λL=>?_;refine zn h.s h.d ?_;refine zbB (G.push L) (zvU hd) h ho ?_;have:=Led.grps_len ho;refine zR (λg=>decide (m∈g)) gAV (λ_=>rfl) (λ_ _=>rfl) (λg _ R q=>?_) (λg _ _ R q=>q) trivial (zyX this) ?_
 .exact inM (.inl rfl) q
 unfold Led.holding at hg;rw[hg];exact Ends.same q
theorem zka(G:Gd X (hK P))(hd:n<560){a:LA}{D:Led}(h:LAt Y a D)(ho:LOk D)(q:Q (.lst ((srt num D.tick).map zu)) Y):CallOk X 211 ⟨n,false⟩ [.ref a.self] Q Z Y:=by
 refine zmG G (fY hd (by decide)) λL=>?_;refine zn h.s h.d ?_
 conv=>whnf
 refine ze (zA h.t) ?_;refine zeV (G.push L) (zyO hd) (λm hm=>(ho.tick m hm).1) ?_;exact Ends.same q
noncomputable def Led.told(D:Led):List zd:=D.tick.flatMap zf
noncomputable def Led.left(D:Led)(s:Bool):List Nat:=(List.range (D.row s).length).filter λi=>!decide ((s,(i:Int))∈D.told)
theorem zmY{m:Mt}(h:SmM m):(zf m).length<=6:=by
 unfold zf;rw[fF,fC,fC];have h1:m.1.length<=3:=h.1.1;have h2:m.2.length<=3:=h.2.1;exact zz5 h1 h2
theorem zq2(G:Gd X (hK P))(hd:n<560){a:LA}{D:Led}(h:LAt Y a D)(ho:LOk D){s:Bool}(q:Q (.lst ((D.left s).map λi:Nat=>.int i)) Y):CallOk X 223 ⟨n,false⟩ [.ref a.self,.str s.toNat] Q Z Y:=by
 refine zsY G (fY hd (by decide)) λL=>?_;have htl:=ho.tl;refine zn h.s h.d ?_
 conv=>whnf
 refine ze (zA h.t) ?_;refine zw (g:=zu) (λxs b l Y'=>Y=Y'/\(∃u,l=[some (.ref a.self),some (.str s.toNat),some (.lst (b.map zI)),u])/\b.length+6*xs.length<=6000/\∀m∈xs,m∈D.tick) (λb m=>b++zf m) ?_ (b:=[]) ?_ (zp rfl ⟨_,rfl⟩ (by rw[gU];exact zFr htl) (λm hm=>hm))
 .rintro m xs b l Y' K S_ ⟨rfl,⟨u,rfl⟩,hl,hx⟩ hK;rw[fH] at hl;have hm:=(ho.tick m (hx m fA)).1;have hml:=zmY hm;have h1:m.1.length<=3:=hm.1.1;have h2:m.2.length<=3:=hm.2.1;refine zc _ rfl ?_;refine kK (G.push L) (zyP hd) (zjf h1) (zjf h2) ?_;refine zD (by rw[fC,fC];exact zFw hl hml) ?_;rw[<-fR];exact⟨h.t,hK _ _ (zp rfl ⟨_,rfl⟩ (by rw[fF];exact zFv hl hml) (λy hy=>hx y (fB _ hy)))⟩
 .rintro l Y' ⟨rfl,⟨u,rfl⟩,_,_⟩;rw[jN,fAH];refine zn h.s h.d ?_;refine zbs h ?_;refine ze (zA (h.row s)) ?_;rw[fC];have hrl:(D.row s).length<=80:=by
   cases s with
   | false=>exact ho.few.1
   | true=>exact ho.few.2
  refine zcA (zrL hrl) ?_;refine zR (λi:Nat=>!decide ((s,(i:Int))∈D.told)) (λi:Nat=>.int i) (λ_=>rfl) (λ_ _=>rfl) (λi _ R q=>?_) (λi _ _ R q=>q) trivial (by rw[gN];exact zrL hrl) ?_
  .exact inM (m:=(s,(i:Int))) (ms:=D.told) (.inl rfl) q
  .exact Ends.same q
end
section
variable{P:Hl}{X:Cx}{n:Nat}{Q:zl}{Z:XP}{Y:AHeap}
theorem qV{α β:Type}{f:α->List β}{c:Nat}{l:List α}(h:∀a∈l,(f a).length<=c):(l.flatMap f).length<=l.length*c:=by
 induction l with
 | nil=>exact fX _
 | cons a l ih=>
  rw[pS,fF,fH,fBP];have:=h a fA;have:=ih λb hb=>h b (fB _ hb);exact zCF (by assumption) this
theorem zl1{es fs:List Ent}{span:Int}{g:List zd}(h:g.length<=8):(win es fs span g).length<=20480:=by
 unfold win;rw[(zX ..).length_eq];refine fE (qV (c:=4096) λz hz=>?_) (by decide);have hzl:∀z∈szs,8 ^ z.1*8 ^ z.2<=4096:=by decide
 refine fE (qV (c:=8 ^ z.2) λl hl=>?_) (fE (gM _ (zak (q7 h) z.1)) (hzl z hz));unfold qI;rw[fC];exact fE (pE ..) (zak (q7 h) z.2)
noncomputable def zV(m:Mt):zd:=(zf m).headD (false,0)
noncomputable def Led.pick(D:Led)(g:List zd):Led:={ D with tick:=(D.tick.filter λm=>!decide (zV m∈g))++pk ((win D.es D.fs D.span g).filter λm=>!decide (m∈D.clos)) g }
theorem LAt.ticks{a:LA}{D:Led}(h:LAt Y a D){p:Addr}(hp:Y p=none)(tk:List Mt):LAt ((Y.set p (.list (tk.map zu))).set a.dx (.idict (zj2 { a with pt:=p } D))) { a with pt:=p } { D with tick:=tk }:=by
 have ne:∀{q:Addr} {o:AO},Y q=some o->q≠p:=λe q=>by rw[q,hp] at e;exact absurd (Eq.symm e) (fP _)
 have nd:∀{q:Addr} {xs:List AV},Y q=some (.list xs)->q≠a.dx:=λe q=>by rw[q,h.d] at e;cases e
 have hdp:a.dx≠p:=ne h.d;have hsd:a.self≠a.dx:=λq=>by have:=h.s;rw[q,h.d] at this;cases this
 have st:∀{q:Addr} {o:AO},Y q=some o->q≠a.dx->((Y.set p (.list (tk.map zu))).set a.dx (.idict (zj2 { a with pt:=p } D))) q=some o:=λe hq=>by rw[AHeap.wB _ _ hq,AHeap.wB _ _ (ne e)];exact e
 obtain⟨n1,n2⟩:=fQ.mp h.nd;obtain⟨n3,n4⟩:=fQ.mp n2;obtain⟨n5,n6⟩:=fQ.mp n4;refine⟨st h.s hsd,AHeap.wA ..,st h.r h.dr.symm,st h.b (nd h.b),st h.k (nd h.k),?_,st h.c (nd h.c),h.dr,?_⟩
 .rw[AHeap.wB _ _ (Ne.symm hdp)];exact AHeap.wA ..
 .show [a.pb,a.pk,p,a.pc].Nodup;have e1:=ne h.b;have e2:=ne h.k;have e3:=ne h.c;simp only[fQ,fJ,gD,or_false,not_or,not_false_eq_true,fDF,and_true] at n1 n3 n5 ⊢;exact zo (zo n1.1 e1 n1.2.2) ⟨e2,n3.2⟩ e3.symm
theorem zdD{a:LA}{D:Led}{p:Addr}(hp:Y p=none)(tk:List Mt){x:Addr}{o:AO}(hx:x≠a.dx)(e:Y x=some o):((Y.set p (.list (tk.map zu))).set a.dx (.idict (zj2 { a with pt:=p } D))) x=some o:=by
 rw[AHeap.wB _ _ hx,AHeap.wB _ _ (by rintro rfl;rw[hp] at e;cases e)];exact e
theorem ziA{m m':Mt}(h:zu m=zu m'):m=m':=by
 obtain⟨a,b⟩:=m;obtain⟨c,d⟩:=m';have inj:∀{l r:List Int},l.map AV.int=r.map AV.int->l=r:=λ{l r} e=>by
  have:=congrArg (List.map unI) e;rw[gC,gC] at this;have hi:unI∘AV.int=id:=rfl;rw[hi,fBY,fBY] at this;exact this
 unfold zu at h;injection h with h
 injection h with h1 h2
 injection h2 with h2 _
 injection h1 with h1
 injection h2 with h2
 have e1:a=c:=inj h1;have e2:b=d:=inj h2;subst e1 e2;rfl
theorem zpd{m:Mt}{ms:List Mt}:zu m∈ms.map zu↔m∈ms:=⟨λh=>by refine zb (fO.mp h) λx h1 h2=>?_;rw[<-ziA h2];exact h1,λh=>gS h⟩
theorem zsQ{m:Mt}{ms:List Mt}{p:Addr}{R:Bool->AHeap->Prop}(hp:Y p=some (.list (ms.map zu)))(q:R (decide (m∈ms)) Y):inR (zu m) p R Y:=by
 refine zh3 hp (zaF m) (λy hy=>?_) (by decide) (λh=>?_) λh=>?_
 .refine zb (fO.mp hy) λx _ e6_2=>?_;subst e6_2;exact zaF x
 .rw[zpd] at h;rw[H0 h] at q;exact q
 .rw[zpd] at h;rw[Hz h] at q;exact q
theorem zqb{es fs:List Ent}{span:Int}{g:List zd}(hg:GOk g es.length fs.length){m:Mt}(h:m∈win es fs span g):zm0 m:=by
 refine jC (zd2 hg ((zX ..).mem_iff.mp h)) λh1 _ _ h2 _=>?_;refine(zo h1 (λe=>?_) (λe=>?_))<;>rw[e,gU] at h2<;>simp at h2
theorem zr8{m:Mt}(h:zm0 m):zkc m:=⟨pP h.1.1.1,pP h.1.2.1⟩
theorem zg8(ms:List Mt)(r:List zd):(pk ms r).length<=r.length:=by
 have gen:∀n r,(pkF ms n r).length<=n:=λn=>by
  induction n with
  | zero=>intro r;exact fN 0
  | succ n ih=>
   intro r;cases r with
   | nil=>exact fX _
   | cons x t=>
    unfold pkF;split
    .exact pP (ih t)
    .exact gW (ih _)
 exact gen _ _
theorem zlE(G:Gd X (hK P))(hd:n<540){a:LA}{D:Led}(h:LAt Y a D)(ho:LOk D){g:List zd}(hg:GOk g D.es.length D.fs.length)
  (q:∀Y' pt',(∀x o,x≠a.dx->Y x=some o->Y' x=some o)->Y pt'=none->LAt Y' { a with pt:=pt' } (D.pick g)->Q .none Y'):CallOk X 190 ⟨n,false⟩ [.ref a.self,gAV g] Q Z Y:=by
 refine zsZ G (fY hd (by decide)) λL=>?_;have htl:=ho.tl
 conv=>whnf
 refine zn h.s h.d ?_
 conv=>whnf
 refine ze (zA h.t) ?_;refine zR (λm=>!decide (zV m∈g)) zu (λ_=>rfl) (λ_ _=>rfl) (λm hm R q=>?_) (λm hm _ R q=>q) h.t (zcR htl) ?_
 .have hgo:=ho.tick m hm;have h1:m.1.length<=3:=hgo.1.1.1;have h2:m.2.length<=3:=hgo.1.2.1;refine kK (G.push L) (zvT hd) (zjf h1) (zjf h2) ?_;unfold zV at q;cases hmm:zf m with
  | nil=>
   exfalso;have:=congrArg List.length hmm;unfold zf at this;rw[fF,fC,gU] at this;exact hgo.2.1 (gY.mp (zwe this))
  | cons x t=>
   rw[hmm] at q;exact inM (.inl rfl) q
 intro p1 hp1;refine zn ((zL hp1) _ _ h.s) ((zL hp1) _ _ h.d) ?_;have h1:=h.ticks hp1 (D.tick.filter λm=>!decide (zV m∈g));have fr1:=λx o (hx:x≠a.dx) e=>zdD (a:=a) (D:=D) hp1 (D.tick.filter λm=>!decide (zV m∈g)) (x:=x) (o:=o) hx e;refine jd rfl ?_;have ef:jx (zj2 a D) 5 (.ref p1)=zj2 { a with pt:=p1 } D:=rfl;rw[ef];generalize (Y.set p1 (.list ((D.tick.filter λm=>!decide (zV m∈g)).map zu))).set a.dx (.idict (zj2 { a with pt:=p1 } D))=Y1 at h1 fr1 ⊢;refine zn h1.s h1.d ?_;refine zbs (s:=false) h1 ?_;refine zn h1.s h1.d ?_;refine zbs (s:=true) h1 ?_;refine zn h1.s h1.d ?_;refine znH (G.push L) (zvS hd) h1.b h1.k ho.es ho.fs hg ?_;refine zn h1.s h1.d ?_;have hwl:=zl1 (es:=D.es) (fs:=D.fs) (span:=D.span) hg.few;refine zR (λm=>!decide (m∈D.clos)) zu (λ_=>rfl) (λ_ _=>rfl) (λm hm R q=>?_) (λm hm _ R q=>q) trivial (by lia) ?_
 .refine zn h1.s h1.d ?_;exact zsQ h1.c q
 refine zm5 (G.push L) (zvR hd) hg.few (λm hm=>zr8 (zqb hg (fZ.mp hm).1)) (fE (pE ..) (by lia)) ?_;refine ze (zA h1.t) ?_;have hpl:=zg8 ((win D.es D.fs D.span g).filter λm=>!decide (m∈D.clos)) g;have hfl:=pE (λm=>!decide (zV m∈g)) D.tick;have hgf:=hg.few;refine zD (by rw[fC,fC];dsimp only;exact zxa htl hpl hfl hgf) ?_;intro p2 hp2;refine zn ((zL hp2) _ _ h1.s) ((zL hp2) _ _ h1.d) ?_;rw[<-fR];have h2:=h1.ticks hp2 ((D.tick.filter λm=>!decide (zV m∈g))++pk ((win D.es D.fs D.span g).filter λm=>!decide (m∈D.clos)) g);refine Ends.same (q _ p2 (λx o hx e=>zdD hp2 _ hx (fr1 x o hx e)) ?_ h2);cases e:Y p2 with
 | none=>rfl
 | some o=>
  by_cases hx:p2=a.dx
  .rw[hx] at hp2;have:=h1.d;rw[hp2] at this;exact absurd (Eq.symm this) (fP _)
  .rw[fr1 p2 o hx e] at hp2;exact absurd hp2 (fP _)
end
section
variable{P:Hl}{X:Cx}{n:Nat}{Q:zl}{Z:XP}{Y:AHeap}
theorem znQ{gs:List (List zd)}(h:gs≠[])(m:zd):(zY gs m).flatten=gs.flatten++[m]:=by
 obtain⟨g0,g,rfl⟩:∃g0 g,gs=g0++[g]:=(jy _ _ ((fAU h).symm))
 rw[jS];simp
theorem zsw{gs:List (List zd)}(h:gs≠[])(m:zd):zY gs m≠[]:=by
 obtain⟨g0,g,rfl⟩:∃g0 g,gs=g0++[g]:=(jy _ _ ((fAU h).symm))
 rw[jS];simp
theorem zjJ{span:Int}(ts:List Tr)(b:List (List zd)×Option Int)(hb:b.2=none\/b.1≠[]):(ts.foldl (qf span) b).1.flatten=b.1.flatten++ts.map (·.2):=by
 induction ts generalizing b with
 | nil=>exact(gT _).symm
 | cons t ts ih=>
  rw[pM];have hne:(if zbG span b.2 t.1 then b.1++[[]] else b.1)≠[]:=by
   split
   .simp
   .rename_i ho
    exact hb.resolve_left λe=>ho (by rw[e];rfl)
  have hfl:(if zbG span b.2 t.1 then b.1++[[]] else b.1).flatten=b.1.flatten:=by split<;>simp
  rw[ih _ (.inr (zsw hne _))];unfold qf;dsimp only;rw[znQ hne,hfl,gJ,gF];rfl
theorem kg(es fs:List Ent)(span:Int):(grps es fs span).flatten=(inO es fs).map (·.2):=by
 unfold grps;rw[zjJ _ _ (.inl rfl)];rfl
theorem zdz(s:Bool)(es:List Ent):((kH s es).map (·.2)).Nodup:=by
 unfold kH;rw[gC];refine zaf List.nodup_range λa _ b _ e=>?_;have:=congrArg Prod.snd e;exact Int.ofNat.inj this
theorem zjk(es fs:List Ent):((zbA es fs).map (·.2)).Nodup:=by
 unfold zbA;rw[fR,gR];refine zo (zdz _ _) (zdz _ _) (λa ha b hb e=>?_);refine zb (fO.mp ha) λx hx e0_2=>?_;subst e0_2;refine zb (fO.mp hb) λy hy e1_2=>?_;subst e1_2;refine zb (fO.mp hx) λi _ e2_2=>?_;subst e2_2;refine zb (fO.mp hy) λj _ e3_2=>?_;subst e3_2;cases e
theorem zcY(es fs:List Ent):((inO es fs).map (·.2)).Nodup:=((zX zaL (zbA es fs)).map _).nodup_iff.mpr (zjk es fs)
theorem mem_inO{es fs:List Ent}{m:zd}:m∈(inO es fs).map (·.2)↔∃k:Nat,m.2=k/\k<(if m.1 then fs else es).length:=by
 obtain⟨b,i⟩:=m;constructor
 .intro h;refine zb (fO.mp h) λt ht e=>?_;have ht:=inO_mem.mp ht
  rcases fT.mp ht with h|h<;>obtain⟨k,hk,rfl⟩:=fO.mp h<;>cases e<;>exact zc k rfl (pR.mp hk)
 .intro hR1;obtain⟨k,hk,hl⟩:=hR1;cases hk;cases b with
  | false=>exact fO.mpr (zc _ (inO_mem.mpr (pB _ (fO.mpr (zc k (pR.mpr hl) rfl)))) rfl)
  | true=>exact fO.mpr (zc _ (inO_mem.mpr (gH _ (fO.mpr (zc k (pR.mpr hl) rfl)))) rfl)
theorem zbD{α:Type}{gs:List (List α)}(h:gs.flatten.Nodup){g:List α}(hg:g∈gs):g.Nodup:=List.Nodup.sublist (fCM hg) h
theorem zcl{es fs:List Ent}{span:Int}{g:List zd}(hg:g∈grps es fs span)(h8:g.length<=8)(hs:es.length<=80/\fs.length<=80):GOk g es.length fs.length:=by
 have hfl:=kg es fs span;refine⟨zbD (by rw[hfl];exact zcY es fs) hg,λm hm=>?_,h8,hs⟩;have:m∈(inO es fs).map (·.2):=by rw[<-hfl];exact gP.mpr (zc g hg hm)
 refine zb (mem_inO.mp this) λk h1 h2=>?_;rw[h1];cases hb:m.1<;>rw[hb] at h2<;>simp only[gK,if_false,if_true] at h2 ⊢<;>exact zwm h2
theorem zbR(D:Led){m:zd}{k:Nat}(hk:m.2=k)(hl:k<(D.row m.1).length):∃g gs,D.holding m=g::gs/\g∈D.grps/\m∈g:=by
 have:m∈D.grps.flatten:=by
  unfold Led.grps;rw[kg];exact mem_inO.mpr (zc k hk hl)
 refine zb (gP.mp this) λg h1 h2=>?_;have hm:g∈D.holding m:=fZ.mpr ⟨h1,H0 h2⟩;cases hh:D.holding m with
 | nil=>rw[hh] at hm;cases hm
 | cons g' gs=>
  have hg':g'∈D.holding m:=by rw[hh];exact fA
  exact zN g' gs rfl ((fZ.mp hg').1) (H1 (fZ.mp hg').2)
noncomputable def Led.add(D:Led)(s:Bool)(e:Ent):Led:=match s with
 | false=>{ D with es:=D.es++[e] }
 | true=>{ D with fs:=D.fs++[e] }
theorem zgh(D:Led)(s:Bool)(e:Ent):(D.add s e).row s=D.row s++[e]:=by cases s<;>rfl
theorem zhV{es:List Ent}(h:EsOk es){e:Ent}(he:k7 e.1 e.2=true)(hl:es.length<1000):EsOk (es++[e]):=by
 unfold k7 at he;simp only[gX,decide_eq_true_eq,fB1] at he;obtain⟨⟨⟨⟨h1,h2⟩,h3⟩,h4⟩,_⟩:=he;refine⟨λx hx=>?_,λx hx=>?_,by rw[fF,fV];exact zvP hl⟩
 .rcases fT.mp hx with h'|h'
  .exact h.day x h'
  .rw[fG.mp h'];exact⟨h1,h2⟩
 .rcases fT.mp hx with h'|h'
  .exact h.cents x h'
  .rw[fG.mp h'];lia
theorem zgS{D:Led}(h:LOk D){s:Bool}{e:Ent}(he:k7 e.1 e.2=true)(hl:(D.row s).length<80):LOk (D.add s e):=by
 have hf:=h.few;cases s with
 | false=>exact⟨zhV h.es he (zzq hf),h.fs,⟨by show (D.es++[e]).length<=80;rw[fF,fV];exact hl,hf.2⟩,h.tick,h.clos,h.tl,h.cl⟩
 | true=>exact⟨h.es,zhV h.fs he (zzr hf),⟨hf.1,by show (D.fs++[e]).length<=80;rw[fF,fV];exact hl⟩,h.tick,h.clos,h.tl,h.cl⟩
theorem LAt.add{a:LA}{D:Led}(h:LAt Y a D)(s:Bool)(e:Ent):LAt (Y.set (a.row s) (.list (((D.row s)++[e]).map zz))) a (D.add s e):=by
 have nd:∀{q:Addr} {o:AO},Y q=some o->(∀xs,o≠.list xs)->q≠a.row s:=λeq hq q=>by rw[q,h.row s] at eq;obtain rfl:=Hy eq;exact hq _ rfl
 obtain⟨n1,n2⟩:=fQ.mp h.nd;obtain⟨n3,n4⟩:=fQ.mp n2;simp only[fJ,gD,or_false,not_or] at n1 n3;have e1:Y.set (a.row s) (.list (((D.row s)++[e]).map zz)) a.self=_:=(AHeap.wB _ _ (nd h.s (λ_ q=>nomatch q))).trans h.s;have e2:Y.set (a.row s) (.list (((D.row s)++[e]).map zz)) a.dx=_:=(AHeap.wB _ _ (nd h.d (λ_ q=>nomatch q))).trans h.d;have e3:Y.set (a.row s) (.list (((D.row s)++[e]).map zz)) a.rd=_:=(AHeap.wB _ _ (nd h.r (λ_ q=>nomatch q))).trans h.r;cases s with
 | false=>exact⟨e1,e2,e3,AHeap.wA ..,(AHeap.wB _ _ (Ne.symm n1.1)).trans h.k,(AHeap.wB _ _ (Ne.symm n1.2.1)).trans h.t,(AHeap.wB _ _ (Ne.symm n1.2.2)).trans h.c,h.dr,h.nd⟩
 | true=>exact⟨e1,e2,e3,(AHeap.wB _ _ n1.1).trans h.b,AHeap.wA ..,(AHeap.wB _ _ (Ne.symm n3.1)).trans h.t,(AHeap.wB _ _ (Ne.symm n3.2)).trans h.c,h.dr,h.nd⟩
theorem zpL{p:Addr}{o o':AO}(h:Y p=some o):(Y.set p o').set p o=Y:=by
 funext b
 by_cases hb:b=p
 .subst hb;rw[AHeap.wA,h]
 .rw[AHeap.wB _ _ hb,AHeap.wB _ _ hb]
theorem zeT:∀y∈[AV.str 0,AV.str 1],Flat 0 y:=λy hy=>by
 rcases fJ.mp hy with rfl|hy
 .exact .str (by decide)
 .rw[fG.mp hy];exact .str (by decide)
theorem zoE{s:Bool}{R:Bool->AHeap->Prop}(q:R true Y):inG (.str s.toNat) (.tup [.str 0,.str 1]) R Y:=by
 have hs:AV.str s.toNat∈[AV.str 0,AV.str 1]:=by
  cases s with
  | false=>exact fA
  | true=>exact fB _ fA
 exact zh2 (xs:=[.str 0,.str 1]) (.inr rfl) (zeT _ hs) zeT (by decide) (λ_=>q) λhn=>absurd hs hn
theorem zpw(G:Gd X (hK P))(hd:n<520){a:LA}{D:Led}(h:LAt Y a D)(ho:LOk D){s:Bool}{e:Ent}(he:k7 e.1 e.2=true)(hl:(D.row s).length<80){g:List zd}{gs:List (List zd)}(hg:(D.add s e).holding (s,((D.row s).length:Int))=g::gs)
  (q:g.length<=8->∀Y' pt',(∀x o,x≠a.dx->x≠a.row s->Y x=some o->Y' x=some o)->Y pt'=none->LAt Y' { a with pt:=pt' } ((D.add s e).pick g)->Q (.int (D.row s).length) Y')(qx:8<g.length->Z 94 Y) :
  CallOk X 197 ⟨n,false⟩ [.ref a.self,.str s.toNat,.int e.1,.int e.2] Q Z Y:=by
 refine zuG G (fY hd (by decide)) λL=>?_;refine zoE ?_;refine zia (G.push L) (zyL hd) ?_;rw[he];refine zn h.s h.d ?_;refine zbs h ?_;refine zk (h.row s) ?_;refine zk (h.row s) ?_;refine zD (by rw[fC];exact ztE hl) ?_;have h1:=h.add s e;have ho1:=zgS ho he hl;have hr1:(Y.set (a.row s) (.list (((D.row s)++[e]).map zz))) (a.row s)=some (.list ((D.row s).map zz++[zz e])):=by rw[AHeap.wA,fR];rfl
 have fr1:∀x o,x≠a.row s->Y x=some o->(Y.set (a.row s) (.list (((D.row s)++[e]).map zz))) x=some o:=λx o hx ex=>(AHeap.wB _ _ hx).trans ex;have bk:(Y.set (a.row s) (.list (((D.row s)++[e]).map zz))).set (a.row s) (.list ((D.row s).map zz))=Y:=zpL (h.row s);have nn:∀x,(Y.set (a.row s) (.list (((D.row s)++[e]).map zz))) x=none->Y x=none:=λx hx=>by
  by_cases hxr:x=a.row s
  .rw[hxr,AHeap.wA] at hx;exact absurd hx (fP _)
  .rw[AHeap.wB _ _ hxr] at hx;exact hx
 have eL:(D.row s).map zz++[zz e]=((D.row s)++[e]).map zz:=by rw[fR];rfl
 rw[show AV.tup [AV.int e.1,AV.int e.2]=zz e from rfl,eL];unfold G6;generalize Y.set (a.row s) (.list (((D.row s)++[e]).map zz))=Y1 at h1 hr1 fr1 bk nn ⊢;refine zn h1.s h1.d ?_;refine ze (zA hr1) ?_;have el:(((D.row s).map zz++[zz e]).length:Int)-1=(D.row s).length:=by rw[fF,fC,fV];exact ztH
 conv=>whnf
 rw[el];refine zdg (m:=(s,((D.row s).length:Int))) (G.push L) (zyK hd) h1 ho1 hg ?_
 conv=>whnf
 rw[fC];refine qe (λh8=>?_) λh8=>?_
 .have h8:8<g.length:=fBB.mp (H1 h8);refine zk hr1 ?_;refine zk hr1 ?_;refine ze List.getLast?_concat ?_;rw[List.dropLast_concat]
  conv=>whnf
  rw[bk];exact qx h8
 .have h8:g.length<=8:=pQ.mp λh=>of_decide_eq_false h8 (fBB.mpr h);have hgm:g∈(D.add s e).grps:=by
   have:g∈(D.add s e).holding (s,((D.row s).length:Int)):=by rw[hg];exact fA
   exact(fZ.mp this).1
  refine zn h1.s h1.d ?_;refine zlE (G.push L) (zyJ hd) h1 ho1 (zcl hgm h8 ho1.few) λY2 pt' fr2 hp2 h2=>?_;have hr2:Y2 (a.row s)=some (.list ((D.row s).map zz++[zz e])):=fr2 _ _ (λq=>by rw[q,h1.d] at hr1;cases hr1) hr1;refine ze (zA hr2) ?_
  conv=>whnf
  rw[el];exact Ends.same (q h8 Y2 pt' (λx o hx hx' ex=>fr2 x o hx (fr1 x o hx' ex)) (nn _ hp2) h2)
end
section
variable{P:Hl}{X:Cx}{n:Nat}{Q:zl}{Z:XP}{Y:AHeap}
noncomputable def zov(i:Int):Bool:=decide (0<=i)&&decide (i<=30)
theorem ziC{Y:AHeap}{p q:Addr}{o:AO}(h:Y q=some o)(hp:Y p=none):q≠p:=λe=>by rw[e,hp] at h;exact absurd (Eq.symm h) (fP _)
theorem jc{Y:AHeap}{p q:Addr}{o o':AO}(h:Y q=some o)(hp:Y p=none):Y.set p o' q=some o:=(AHeap.wB _ _ (ziC h hp)).trans h
theorem zx{Y:AHeap}{p q:Addr}{o o':AO}(h:Y q=some o)(hp:q≠p):Y.set p o' q=some o:=(AHeap.wB _ _ hp).trans h
noncomputable def LA.all(a:LA):List Addr:=[a.self,a.dx,a.rd,a.pb,a.pk,a.pt,a.pc]
structure Lay(Y Y':AHeap)(ps:List (Addr×AO)):Prop where
 sub:Sub Y Y'
 here:∀p∈ps,Y' p.1=some p.2
 new:∀p∈ps,Y p.1=none
 nd:(ps.map Prod.fst).Nodup
theorem Lay.add{Y Y':AHeap}{ps:List (Addr×AO)}{p:Addr}{o:AO}(h:Lay Y Y' ps)(hp:Y' p=none):Lay Y (Y'.set p o) ((p,o)::ps):=by
 have hn:=h.sub.none hp;refine⟨h.sub.put hn,fM.mpr ⟨AHeap.wA ..,λq hq=>jc (h.here q hq) hp⟩,fM.mpr ⟨hn,h.new⟩,fQ.mpr ⟨λhm=>?_,h.nd⟩⟩;refine zb (fO.mp hm) λq hq e=>?_;have:=h.here q hq;rw[e] at this;exact ziC this hp rfl
theorem Lay.upd{Y Y':AHeap}{p:Addr}{o o':AO}(ps rs:List (Addr×AO))(h:Lay Y Y' (ps++(p,o)::rs)):Lay Y (Y'.set p o') (ps++(p,o')::rs):=by
 have hm:∀{q:Addr×AO},q∈ps++(p,o')::rs->q=(p,o')\/q∈ps++(p,o)::rs/\q.1≠p:=λ{q} hq=>by
  have nd:=h.nd;rw[fR,gJ] at nd;have nd:=gR.mp nd
  rcases fT.mp hq with hq|hq
  .exact .inr ⟨pB _ hq,λe=>nd.2.2 _ (gS hq) _ fA e⟩
  .rcases fJ.mp hq with hq|hq
   .exact .inl hq
   .exact .inr ⟨gH _ (fB _ hq),λe=>(fQ.mp nd.2.1).1 (show p∈rs.map Prod.fst from e▸gS (f:=Prod.fst) hq)⟩
 have hp:Y p=none:=h.new (p,o) (gH _ fA);refine⟨h.sub.put hp,λq hq=>?_,λq hq=>?_,by have:=h.nd;rw[fR] at this ⊢;exact this⟩
 .rcases hm hq with e|⟨h1,h2⟩
  .rw[e];exact AHeap.wA ..
  .exact zx (h.here q h1) h2
 .rcases hm hq with e|⟨h1,h2⟩
  .rw[e];exact hp
  .exact h.new q h1
theorem m0{α:Type}{a:α}{l:List α}:a∈a::l:=fA
theorem m1{α:Type}{a b:α}{l:List α}:a∈b::a::l:=fB _ m0
theorem m2{α:Type}{a b c:α}{l:List α}:a∈b::c::a::l:=fB _ m1
theorem m3{α:Type}{a b c d:α}{l:List α}:a∈b::c::d::a::l:=fB _ m2
theorem m4{α:Type}{a b c d e:α}{l:List α}:a∈b::c::d::e::a::l:=fB _ m3
theorem m5{α:Type}{a b c d e f:α}{l:List α}:a∈b::c::d::e::f::a::l:=fB _ m4
theorem m6{α:Type}{a b c d e f g:α}{l:List α}:a∈b::c::d::e::f::g::a::l:=fB _ m5
theorem zqZ{Y Y':AHeap}{i:Int}{x dx rd pb pk pt pc:Addr}(h:Lay Y Y' [(pc,.list []),(pt,.list []),(pk,.list []),(pb,.list []),(rd,.idict [(0,.ref pb),(1,.ref pk)]),(x,.inst 245 dx),(dx,.idict [(3,.int i),(4,.ref rd),(5,.ref pt),(6,.ref pc)])]) :
  (∀y∈LA.all ⟨x,dx,rd,pb,pk,pt,pc⟩,Y y=none)/\LAt Y' ⟨x,dx,rd,pb,pk,pt,pc⟩ ⟨[],[],i,[],[]⟩:=by
 have nd:[pc,pt,pk,pb,rd,x,dx].Nodup:=h.nd;have n:=fQ.mp nd;have n1:=fQ.mp n.2;have n2:=fQ.mp n1.2;have n3:=fQ.mp n2.2;have n4:=fQ.mp n3.2;refine⟨fM.mpr ⟨h.new _ m5,fM.mpr ⟨h.new _ m6,fM.mpr ⟨h.new _ m4,fM.mpr ⟨h.new _ m3,fM.mpr ⟨h.new _ m2,fM.mpr ⟨h.new _ m1,fM.mpr ⟨h.new _ m0,λ_ h=>nomatch h⟩⟩⟩⟩⟩⟩⟩,h.here _ m5,h.here _ m6,h.here _ m4,h.here _ m3,h.here _ m2,h.here _ m1,h.here _ m0,λe=>n4.1 (show rd∈[x,dx] by rw[<-show dx=rd from e];exact m1),?_⟩;have r:[pb,pk,pt,pc].Nodup:=List.pairwise_reverse.mpr ((List.Nodup.sublist (List.take_sublist 4 [pc,pt,pk,pb,rd,x,dx]) nd).imp λh=>Ne.symm h);exact r
theorem zte(G:Gd X (hK P))(hd:n<500){i:Int}(hi:zov i=true)(q:∀Y' a,(∀x o,Y x=some o->Y' x=some o)->(∀x∈a.all,Y x=none)->LAt Y' a ⟨[],[],i,[],[]⟩->Q (.ref a.self) Y'):znO X 245 178 ⟨n,false⟩ [.int i] Q Z Y:=by
 intro dx x hdx hx hne;obtain⟨i1,i2⟩:=gA.mp hi;refine zsW G (by dsimp only;exact zyI hd) λL=>?_;have l0:Lay Y Y []:=⟨λ_ _ e=>e,(λ_ h=>nomatch h),(λ_ h=>nomatch h),.nil⟩
 have l0:=(l0.add (o:=.idict []) hdx).add (p:=x) (o:=.inst 245 dx) ((AHeap.wB _ _ hne.symm).trans hx);generalize (Y.set dx (.idict [])).set x (.inst 245 dx)=Y0 at l0 ⊢;refine zbe (G.push L) (by dsimp only;exact zyH hd) ?_;refine zgm i1 ?_
 conv=>whnf
 rw[i2];refine zn (l0.here _ m0) (l0.here _ m1) ?_;refine jd rfl ?_;have l1:=Lay.upd [(x,.inst 245 dx)] [] l0 (o':=.idict (jx [] 3 (.int i)));generalize Y0.set dx (.idict (jx [] 3 (.int i)))=Y1 at l1 ⊢;intro rd hrd;have l2:=l1.add (o:=.idict []) hrd;generalize Y1.set rd (.idict [])=Y2 at l2 ⊢;intro pb hpb;have l3:=l2.add (o:=.list []) hpb;generalize Y2.set pb (.list [])=Y3 at l3 ⊢;intro pk hpk;have l4:=l3.add (o:=.list []) hpk;generalize Y3.set pk (.list [])=Y4 at l4 ⊢;refine⟨l4.here _ m2,?_⟩;have l5:=Lay.upd [(pk,.list []),(pb,.list [])] _ l4 (o':=.idict (jx (jx [] 0 (AV.str 0,AV.ref pb).snd) 1 (AV.str 1,AV.ref pk).snd));refine zn (l5.here _ m3) (l5.here _ m4) ?_;refine jd rfl ?_;have l5:=Lay.upd [(pk,.list []),(pb,.list []),_,(x,.inst 245 dx)] [] l5 (o':=.idict (jx (jx [] 3 (.int i)) 4 (.ref rd)));generalize (Y4.set rd _).set dx (.idict (jx (jx [] 3 (.int i)) 4 (.ref rd)))=Y5 at l5 ⊢;intro pt hpt;have l6:=l5.add (o:=.list []) hpt;refine zn (l6.here _ m4) (l6.here _ m5) ?_;refine jd rfl ?_;have l6:=Lay.upd [(pt,.list []),(pk,.list []),(pb,.list []),_,(x,.inst 245 dx)] [] l6 (o':=.idict (jx (jx (jx [] 3 (.int i)) 4 (.ref rd)) 5 (.ref pt)));generalize (Y5.set pt (.list [])).set dx (.idict (jx (jx (jx [] 3 (.int i)) 4 (.ref rd)) 5 (.ref pt)))=Y6 at l6 ⊢;intro pc hpc;have l7:=l6.add (o:=.list []) hpc;refine zn (l7.here _ m5) (l7.here _ m6) ?_;refine jd rfl ?_
 have l7:=Lay.upd [(pc,.list []),(pt,.list []),(pk,.list []),(pb,.list []),_,(x,.inst 245 dx)] [] l7 (o':=.idict (jx (jx (jx (jx [] 3 (.int i)) 4 (.ref rd)) 5 (.ref pt)) 6 (.ref pc)));have h:=zqZ l7;exact Ends.same ⟨rfl,q _ ⟨x,dx,rd,pb,pk,pt,pc⟩ l7.sub h.1 h.2⟩
end
noncomputable def zbf{α:Type}(c:Bool)(t:α)(gs:List (List α)):List (List α):=match gs with
 | []=>[[t]]
 | g::gs=>match c with
  | true=>[t]::g::gs
  | false=>(t::g)::gs
noncomputable def gap{α:Type}(f:α->Int)(span:Int)(t:α)(ts:List α):Bool:=match ts with
 | []=>true
 | u::_=>decide (f u>f t+span)
noncomputable def z7{α:Type}(f:α->Int)(span:Int):List α->List (List α)
 | []=>[]
 | t::ts=>zbf (gap f span t ts) t (z7 f span ts)
theorem zmD{α:Type}(c:Bool)(t:α)(gs:List (List α)):(zbf c t gs).flatten=t::gs.flatten:=by
 cases gs with
 | nil=>rfl
 | cons g gs=>cases c<;>rfl
theorem zqT{α:Type}(c:Bool)(t:α)(gs:List (List α)):∃h hs,zbf c t gs=(t::h)::hs:=by
 cases gs with
 | nil=>exact⟨_,_,rfl⟩
 | cons g gs=>cases c<;>exact jy _ _ rfl
theorem jD{α:Type}{f:α->Int}{span:Int}(ts:List α):(z7 f span ts).flatten=ts:=by
 induction ts with
 | nil=>rfl
 | cons t ts ih=>unfold z7;rw[zmD,ih]
theorem zcB{α:Type}(f:α->Int)(span:Int)(t:α)(ts:List α):∃h hs,z7 f span (t::ts)=(t::h)::hs:=zqT ..
theorem zeI{α:Type}{f:α->Int}{span:Int}{ts:List α}:∀g∈z7 f span ts,g≠[]:=by
 induction ts with
 | nil=>intro g hg;cases hg
 | cons t ts ih=>
  intro g hg;unfold z7 zbf at hg;cases e:z7 f span ts with
  | nil=>rw[e] at hg;rw[fG.mp hg];exact λe=>nomatch e
  | cons g' gs'=>
   rw[e] at hg ih;cases hc:gap f span t ts with
   | true=>
    rw[hc] at hg
    rcases fJ.mp hg with rfl|hg
    .exact λe=>nomatch e
    .exact ih g hg
   | false=>
    rw[hc] at hg
    rcases fJ.mp hg with rfl|hg
    .exact λe=>nomatch e
    .exact ih g (fB _ hg)
noncomputable def ztj(g:List zd)(hs:List (List zd)):List (List zd):=match hs with
 | []=>[]
 | h::hs=>(g++h)::hs
theorem zhY{span:Int}(ts:List Tr):∀(gs:List (List zd)) (g:List zd) (u:Tr),(ts.foldl (qf span) (gs++[g++[u.2]],some u.1)).1=gs++ztj g ((z7 (·.1) span (u::ts)).map (List.map (·.2))):=by
 induction ts with
 | nil=>intro gs g u;rfl
 | cons t ts ih=>
  intro gs g u;rw[pM];refine z9 (zcB (·.1) span t ts) λh hs e=>?_;have eu:z7 (·.1) span (u::t::ts)=zbf (decide (t.1>u.1+span)) u ((t::h)::hs):=by rw[<-e];rfl
  have es:qf span (gs++[g++[u.2]],some u.1) t=(zY (if decide (t.1>u.1+span) then gs++[g++[u.2]]++[[]] else gs++[g++[u.2]]) t.2,some t.1):=rfl;rw[eu,es];cases hc:decide (t.1>u.1+span) with
  | true=>
   rw[if_pos rfl,jS,ih,e];simp[ztj,zbf]
  | false=>
   rw[if_neg pU,jS,ih,e];simp[ztj,zbf]
theorem zms{span:Int}(ts:List Tr):(ts.foldl (qf span) ([],none)).1=(z7 (·.1) span ts).map (List.map (·.2)):=by
 cases ts with
 | nil=>rfl
 | cons t ts=>
  rw[pM];have:qf span ([],none) t=([]++[[]++[t.2]],some t.1):=rfl;rw[this,zhY];refine z9 (zcB (·.1) span t ts) λh hs e=>?_;rw[e];rfl
def zcq{α:Type}(f:α->Int)(span:Int)(S:List α)(a b:Int):Prop:=∀x∈S,a<=f x->f x<b->∃y∈S,f x<f y/\f y<=f x+span
theorem zmP{α:Type}{f:α->Int}{span:Int}{S:List α}{t:α}{a b:Int}(h:zcq f span (t::S) a b)(ht:∀y∈S,f t<=f y):zcq f span S a b:=λx hx h1 h2=>by
 refine zh (h x (fB _ hx) h1 h2) λy hy h3 h4=>?_
 rcases fJ.mp hy with rfl|hy
 .exact absurd h3 (fDI.mpr (ht x hx))
 .exact zr y hy h3 h4
theorem zmk{α:Type}{f:α->Int}{span:Int}{S:List α}{t:α}{a b:Int}(h:zcq f span S a b)(ht:a<=f t->f t<b->∃y∈S,f t<f y/\f y<=f t+span):zcq f span (t::S) a b:=λx hx h1 h2=>by
 rcases fJ.mp hx with rfl|hx
 .refine zb (ht h1 h2) λy hy h3=>?_;exact zc y (fB _ hy) h3
 .refine zb (h x hx h1 h2) λy hy h3=>?_;exact zc y (fB _ hy) h3
theorem ziJ{α:Type}{f:α->Int}{span:Int}(h0:0<=span):∀{ts:List α} {t:α} {g:List α} {gs:List (List α)},(t::ts).Pairwise (λa b=>f a<=f b)->z7 f span (t::ts)=g::gs->(∀x,x∈g->x∈t::ts/\zcq f span (t::ts) (f t) (f x))/\(∀x,x∈gs.flatten->¬zcq f span (t::ts) (f t) (f x)/\∀y∈g,f y+span<f x):=by
 intro ts
 induction ts with
 | nil=>
  intro t g gs hs e;cases e;refine⟨λx hx=>⟨hx,?_⟩,λx hx=>nomatch hx⟩;rw[fG.mp hx];exact λy hy h1 h2=>absurd h1 (fB9.mpr h2)
 | cons u us ih=>
  intro t g gs hs e;obtain⟨ht,hs'⟩:=gE.mp hs;have htu:=ht u fA;refine z9 (zcB f span u us) λg' gs' e'=>?_;obtain⟨i1,i2⟩:=ih hs' e';have huf:∀x∈us,f u<=f x:=(gE.mp hs').1;have ee:zbf (decide (f u>f t+span)) t ((u::g')::gs')=g::gs:=by rw[<-e'];exact e
  unfold zbf at ee;dsimp only at ee;have hfl:=jD (f:=f) (span:=span) (u::us);rw[e'] at hfl
  by_cases hc:f u>f t+span
  .rw[H0 hc] at ee;cases ee;refine⟨λx hx=>?_,λx hx=>?_⟩
   .rw[fG.mp hx];exact⟨fA,λy hy h1 h2=>absurd h1 (fB9.mpr h2)⟩
   .rw[hfl] at hx;have hux:f u<=f x:=by
     rcases fJ.mp hx with rfl|hx
     .exact fA5 _
     .exact huf x hx
    refine⟨λhl=>?_,λy hy=>by rw[fG.mp hy];exact zEe hc hux⟩;refine zh (hl t fA (fA5 _) (zD6 h0 hc hux)) λy hy h1 h2=>?_
    rcases fJ.mp hy with rfl|hy
    .exact y41 h1
    .rcases fJ.mp hy with rfl|hy
     .exact zDW h2 hc
     .have:=huf y hy;exact zD8 hc h2 this
  .rw[Hz hc] at ee;cases ee;refine⟨λx hx=>?_,λx hx=>?_⟩
   .rcases fJ.mp hx with rfl|hx
    .exact⟨fA,λy hy h1 h2=>absurd h1 (fB9.mpr h2)⟩
    .obtain⟨j1,j2⟩:=i1 x hx;refine⟨fB _ j1,zmk (λy hy h1 h2=>?_) λh1 h2=>?_⟩
     .have:f u<=f y:=by
       rcases fJ.mp hy with rfl|hy
       .exact fA5 _
       .exact huf y hy
      exact j2 y hy this h2
     .by_cases hlt:f t<f u
      .exact zr u fA hlt (zD4 hc)
      .have hut:f u=f t:=by exact zDT htu hlt
       refine zb (j2 u fA (fA5 _) (zD2 h2 hlt)) λy hy h3=>?_;exact zr y hy (zEa htu h3) (zEf hlt h3)
   .obtain⟨j1,j2⟩:=i2 x hx;refine⟨λhl=>j1 λy hy h1 h2=>?_,λy hy=>?_⟩
    .exact zmP hl ht y hy (zDX htu h1) h2
    .rcases fJ.mp hy with rfl|hy
     .have:=j2 u fA;exact zEb htu this
     .exact j2 y hy
theorem zeJ{α:Type}{f:α->Int}{span:Int}:∀{ts:List α} {g:List α} {gs:List (List α)},z7 f span ts=g::gs->∃ts',ts=g++ts'/\gs=z7 f span ts':=by
 intro ts
 induction ts with
 | nil=>intro g gs e;cases e
 | cons t ts ih=>
  intro g gs e;have hfl:=jD (f:=f) (span:=span) ts;have e:zbf (gap f span t ts) t (z7 f span ts)=g::gs:=e;cases ep:z7 f span ts with
  | nil=>
   rw[ep] at e hfl;cases e;exact zc [] (by rw[<-hfl];rfl) rfl
  | cons g' gs'=>
   rw[ep] at e;cases hc:gap f span t ts with
   | true=>rw[hc] at e;cases e;exact zc ts rfl ep.symm
   | false=>
    rw[hc] at e;cases e;refine zb (ih ep) λts' h1 h2=>?_;exact zc ts' (by rw[h1];rfl) h2
section
variable{α:Type}{f:α->Int}{span:Int}
theorem zcC(h0:0<=span){ts g:List α}{gs:List (List α)}(hs:ts.Pairwise (λa b=>f a<=f b))(e:z7 f span ts=g::gs):∃t∈g,(∀x∈ts,f t<=f x)/\(∀x,x∈g->zcq f span ts (f t) (f x))/\(∀x,x∈gs.flatten->¬zcq f span ts (f t) (f x)/\∀y∈g,f y+span<f x):=by
 cases ts with
 | nil=>cases e
 | cons t ts=>
  refine z9 (zcB f span t ts) λh hs' e'=>?_;have ht:t∈g:=by rw[e'] at e;cases e;exact fA
  obtain⟨h1,h2⟩:=ziJ h0 hs e;refine qm t ht (λx hx=>?_) (λx hx=>(h1 x hx).2) h2
  rcases fJ.mp hx with rfl|hx
  .exact fA5 _
  .exact(gE.mp hs).1 x hx
theorem ziI(h0:0<=span):∀{gs:List (List α)} {ts:List α},ts.Pairwise (λa b=>f a<=f b)->z7 f span ts=gs->gs.Pairwise (λg g'=>∀a∈g,∀b∈g',f a+span<f b):=by
 intro gs
 induction gs with
 | nil=>intro ts _ _;exact .nil
 | cons g gs ih=>
  intro ts hs e;refine zb (zeJ e) λts' h1 h2=>?_;refine zE (zcC h0 hs e) λt ht hmin h3 h4=>?_;refine gE.mpr ⟨λg' hg' a ha b hb=>(h4 b (gP.mpr (zc g' hg' hb))).2 a ha,ih (ts:=ts') ?_ h2.symm⟩;rw[h1] at hs;exact(gG.mp hs).2.1
theorem kF(h0:0<=span):∀{gs:List (List α)} {ts:List α},ts.Pairwise (λa b=>f a<=f b)->z7 f span ts=gs->∀{g:List α},g∈gs->∀{x y:α},x∈g->y∈ts->f x<=f y->(y∈g↔zcq f span ts (f x) (f y)):=by
 intro gs
 induction gs with
 | nil=>intro ts _ _ g hg;cases hg
 | cons g1 gs ih=>
  intro ts hs e g hg x y hx hy hxy;refine zb (zeJ e) λts' h1 h2=>?_;refine zE (zcC h0 hs e) λt ht hmin h3 h4=>?_;have hfl:gs.flatten=ts':=by rw[h2];exact jD ts'
  rcases fJ.mp hg with rfl|hg
  .constructor
   .intro hyg z hz hz1 hz2;exact h3 y hyg z hz (hmin z hz) hz2
   .intro hl;rw[h1] at hy
    rcases fT.mp hy with hy|hy
    .exact hy
    .exfalso;refine(h4 y (by rw[hfl];exact hy)).1 λz hz hz1 hz2=>?_
     by_cases hzx:f z<f x
     .exact h3 x hx z hz hz1 hzx
     .exact hl z hz (y62 hzx) hz2
  .have hxf:x∈gs.flatten:=gP.mpr (zc g hg hx);have hbelow:=(h4 x hxf).2;have hy':y∈ts':=by
    rw[h1] at hy
    rcases fT.mp hy with hy|hy
    .exact absurd hxy (fB9.mpr (fA0 (fAF h0) (hbelow y hy)))
    .exact hy
   have hs':ts'.Pairwise (λa b=>f a<=f b):=by rw[h1] at hs;exact(gG.mp hs).2.1
   rw[ih hs' h2.symm hg hx hy' hxy];have mem:∀z,f x<=f z->(z∈ts↔z∈ts'):=λz hz=>by
    rw[h1];refine⟨λh=>?_,λh=>gH _ h⟩
    rcases fT.mp h with h|h
    .exact absurd hz (fB9.mpr (fA0 (fAF h0) (hbelow z h)))
    .exact h
   constructor
   .intro hl z hz hz1 hz2;refine zh (hl z ((mem z hz1).mp hz) hz1 hz2) λw hw hw1 hw2=>?_;exact zr w ((mem w (zxm hz1 hw1)).mpr hw) hw1 hw2
   .intro hl z hz hz1 hz2;refine zh (hl z ((mem z hz1).mpr hz) hz1 hz2) λw hw hw1 hw2=>?_;exact zr w ((mem w (zxm hz1 hw1)).mp hw) hw1 hw2
theorem zfX(h0:0<=span){ts:List α}(hs:ts.Pairwise (λa b=>f a<=f b)){g g':List α}(hg:g∈z7 f span ts)(hg':g'∈z7 f span ts){x:α}(hx:x∈g)(hx':x∈g'):g=g':=by
 have h:=ziI h0 hs rfl;generalize z7 f span ts=gs at h hg hg'
 induction gs with
 | nil=>cases hg
 | cons g1 gs ih=>
  obtain⟨h1,h2⟩:=gE.mp h
  rcases fJ.mp hg with e|i
  .rcases fJ.mp hg' with e'|i'
   .rw[e,e']
   .subst e;exact absurd (h1 g' i' x hx x hx') (fDI.mpr (fAF h0))
  .rcases fJ.mp hg' with e'|i'
   .subst e';exact absurd (h1 g i x hx' x hx) (fDI.mpr (fAF h0))
   .exact ih h2 i i'
theorem zaJ(h0:0<=span){ts:List α}(hs:ts.Pairwise (λa b=>f a<=f b)){g:List α}(hg:g∈z7 f span ts){x y:α}(hx:x∈g)(hy:y∈ts)(hxy:f y<=f x):y∈g↔zcq f span ts (f y) (f x):=by
 have hy':=hy;rw[<-jD (f:=f) (span:=span) ts] at hy';refine zb (gP.mp hy') λg' hg' hyg=>?_;have hxt:x∈ts:=by rw[<-jD (f:=f) (span:=span) ts];exact gP.mpr (zc g hg hx)
 rw[<-kF h0 hs rfl hg' hyg hxt hxy];constructor
 .intro h;rw[zfX h0 hs hg' hg hyg h];exact hx
 .intro h;rw[zfX h0 hs hg hg' hx h];exact hyg
end
theorem zta{α:Type}{f:α->Int}:∀{l:List α},l≠[]->∃z∈l,∀w∈l,f w<=f z:=by
 intro l
 induction l with
 | nil=>intro h;exact absurd rfl h
 | cons x l ih=>
  intro _
  by_cases hl:l=[]
  .subst hl;exact zc x fA (λw hw=>by rw[fG.mp hw];exact fA5 _)
  .refine zb (ih hl) λz hz h=>?_
   by_cases hxz:f x<=f z
   .refine zc z (fB _ hz) (λw hw=>?_)
    rcases fJ.mp hw with rfl|hw
    .exact hxz
    .exact h w hw
   .refine zc x fA (λw hw=>?_)
    rcases fJ.mp hw with rfl|hw
    .exact fA5 _
    .have:=h w hw;exact zD5 hxz this
section
variable{α:Type}{f:α->Int}{span:Int}{ts ts':List α}{n:α}
theorem zim(hm:∀y,y∈ts'↔y∈ts\/y=n){x:α}(hx:x∈ts){b:Int}(h:zcq f span ts (f x) b):zcq f span ts' (f x) b:=λz hz h1 h2=>by
 rcases(hm z).mp hz with hz|rfl
 .refine zb (h z hz h1 h2) λw hw h3=>?_;exact zc w ((hm w).mpr (.inl hw)) h3
 .by_cases he:f z=f x
  .refine zb (h x hx (fA5 _) (zD1 h2 he)) λw hw h3=>?_;exact zr w ((hm w).mpr (.inl hw)) (zD7 he h3) (zEc he h3)
  .have hne:(ts.filter λw=>decide (f x<=f w/\f w<f z))≠[]:=λe=>by
    have:x∈ts.filter λw=>decide (f x<=f w/\f w<f z):=fZ.mpr ⟨hx,H0 ⟨fA5 _,zxl h1 he⟩⟩;rw[e] at this;cases this
   refine zb (zta (f:=f) hne) λy hy hmax=>?_;obtain⟨hyt,hy2⟩:=fZ.mp hy;obtain⟨hy3,hy4⟩:=H1 hy2;refine zh (h y hyt hy3 (fC9 hy4 h2)) λw hw h3 h4=>?_;have hwz:f z<=f w:=by
    by_cases hlt:f w<f z
    .have:=hmax w (fZ.mpr ⟨hw,H0 ⟨fCL (fA0 hy3 h3),hlt⟩⟩);exact zD0 h3 this
    .exact y62 hlt
   by_cases hwe:f w=f z
   .refine zh (h w hw (y68 h1 hwe) (zDZ h2 hwe)) λv hv h5 h6=>?_;exact zr v ((hm v).mpr (.inl hv)) (zD3 hwe h5) (zEd hwe h6)
   .exact zr w ((hm w).mpr (.inl hw)) (zxl hwz hwe) (fAY h4 (Int.add_le_add_right (fCL hy4) _))
theorem zll{ts:List α}{x:α}(hx:x∈ts):∃G∈z7 f span ts,x∈G:=by
 rw[<-jD (f:=f) (span:=span) ts] at hx;exact gP.mp hx
theorem zaI{ts G:List α}(hG:G∈z7 f span ts){x:α}(hx:x∈G):x∈ts:=by
 rw[<-jD (f:=f) (span:=span) ts];exact gP.mpr (zc G hG hx)
theorem zfW(h0:0<=span)(hs:ts.Pairwise (λa b=>f a<=f b))(hs':ts'.Pairwise (λa b=>f a<=f b))(hm:∀y,y∈ts'↔y∈ts\/y=n){G G':List α}(hG:G∈z7 f span ts)(hG':G'∈z7 f span ts'){x:α}(hx:x∈G)(hx':x∈G'):∀y∈G,y∈G':=λy hy=>by
 have hyt:=zaI hG hy;have hxt:=zaI hG hx;have hyt':=(hm y).mpr (.inl hyt)
 rcases fC7 (f x) (f y) with h|h
 .exact(kF h0 hs' rfl hG' hx' hyt' h).mpr (zim hm hxt ((kF h0 hs rfl hG hx hyt h).mp hy))
 .exact(zaJ h0 hs' hG' hx' hyt' h).mpr (zim hm hyt ((zaJ h0 hs hG hx hyt h).mp hy))
theorem zps(h0:0<=span)(hs:ts.Pairwise (λa b=>f a<=f b))(hs':ts'.Pairwise (λa b=>f a<=f b))(hm:∀y,y∈ts'↔y∈ts\/y=n){G G':List α}(hG:G∈z7 f span ts)(hG':G'∈z7 f span ts'){x:α}(hx:x∈G)(hx':x∈G')(hn:n∉G'):∀y∈G',y∈G:=λy hy=>by
 have nt:n∈ts':=(hm n).mpr (.inr rfl);have hyt':=zaI hG' hy;have hyt:y∈ts:=((hm y).mp hyt').resolve_right λe=>hn (e▸hy);have key:∀a b,a∈G'->zcq f span ts' (f a) b->zcq f span ts (f a) b:=λa b ha hl z hz h1 h2=>by
  refine zh (hl z ((hm z).mpr (.inl hz)) h1 h2) λw hw h3 h4=>?_
  rcases(hm w).mp hw with hw|rfl
  .exact zr w hw h3 h4
  .exfalso;have hzG:z∈G':=(kF h0 hs' rfl hG' ha ((hm z).mpr (.inl hz)) h1).mpr λv hv h5 h6=>hl v hv h5 (zDY h2 h6);exact hn ((kF h0 hs' rfl hG' hzG nt (y55 h3)).mpr λv hv h5 h6=>(zr w nt h6 (zD9 h4 h5)))
 rcases fC7 (f x) (f y) with h|h
 .exact(kF h0 hs rfl hG hx hyt h).mpr (key x (f y) hx' ((kF h0 hs' rfl hG' hx' hyt' h).mp hy))
 .exact(zaJ h0 hs hG hx hyt h).mpr (key y (f x) hy ((zaJ h0 hs' hG' hx' hyt' h).mp hy))
end
theorem zpB{t u:Tr}(ht:TrOk t)(hu:TrOk u)(h:zaL t<=zaL u):t.1<=u.1:=
 fDI.mp λhlt=>absurd h (fDG.mpr ((zbh (qk hu.hi) (qk ht.hi)).mpr (.inl ((zbh (pH (fA6 _)) (pH (fA6 _))).mpr (.inl ((zaq hu.day ht.day).mpr hlt))))))
theorem zef{es fs:List Ent}(he:EsOk es)(hf:EsOk fs):(inO es fs).Pairwise λa b=>a.1<=b.1:=
 (zeY zaL (zbA es fs)).imp_of_mem λha hb h=>zpB (jJ he hf (inO_mem.mp ha)).1 (jJ he hf (inO_mem.mp hb)).1 h
theorem ku(es fs:List Ent)(span:Int):grps es fs span=(z7 (·.1) span (inO es fs)).map (List.map (·.2)):=zms _
theorem zoB(es fs:List Ent):(inO es fs).Nodup:=by
 have:=zcY es fs;generalize inO es fs=l at this
 induction l with
 | nil=>exact .nil
 | cons x l ih=>
  rw[gJ] at this;obtain⟨n1,n2⟩:=fQ.mp this;exact fQ.mpr ⟨λh=>n1 (gS h),ih n2⟩
theorem ziH{es fs:List Ent}{span:Int}{G:List Tr}(hG:G∈z7 (·.1) span (inO es fs)):G.Nodup/\∀t∈G,t∈inO es fs:=by
 have hfl:=jD (f:=λt:Tr=>t.1) (span:=span) (inO es fs);refine⟨zbD (by rw[hfl];exact zoB es fs) hG,λt ht=>by rw[<-hfl];exact gP.mpr (zc G hG ht)⟩
theorem zf2(s:Bool)(es:List Ent)(e:Ent):kH s (es++[e])=kH s es++[(e.1,(s,(es.length:Int)))]:=by
 unfold kH;rw[fF,fV,fDD,fR];refine congr (congrArg _ (pK λi hi=>?_)) ?_
 .have:=pR.mp hi;rw[fS,pF this,<-fS]
 .rw[List.map_singleton,fS,pN (fN _),fB0];rfl
noncomputable def Led.trs(D:Led):List Tr:=inO D.es D.fs
theorem zlx{D:Led}{s:Bool}{e:Ent}{t:Tr}:t∈(D.add s e).trs↔t∈D.trs\/t=(e.1,(s,((D.row s).length:Int))):=by
 unfold Led.trs;rw[inO_mem,inO_mem];unfold zbA;cases s with
 | false=>
  show t∈kH false (D.es++[e])++kH true D.fs↔_;rw[zf2];simp only[fT,fG];show _↔(_\/_)\/t=(e.1,(false,(D.es.length:Int)))
  constructor
  .rintro((h|h)|h)
   .exact .inl (.inl h)
   .exact .inr h
   .exact .inl (.inr h)
  .rintro((h|h)|h)
   .exact .inl (.inl h)
   .exact .inr h
   .exact .inl (.inr h)
 | true=>
  show t∈kH false D.es++kH true (D.fs++[e])↔_;rw[zf2];simp only[fT,fG];show _↔(_\/_)\/t=(e.1,(true,(D.fs.length:Int)))
  constructor
  .rintro(h|h|h)
   .exact .inl (.inl h)
   .exact .inl (.inr h)
   .exact .inr h
  .rintro((h|h)|h)
   .exact .inl h
   .exact .inr (.inl h)
   .exact .inr (.inr h)
theorem zpt{ms:List Mt}{r:List zd}{m:Mt}(h:m∈pk ms r):m∈ms:=by
 have gen:∀n r,m∈pkF ms n r->m∈ms:=λn=>by
  induction n with
  | zero=>intro r h;cases h
  | succ n ih=>
   intro r h;cases r with
   | nil=>cases h
   | cons x t=>
    unfold pkF at h;cases hg:zaR ms (x::t) with
    | nil=>rw[hg] at h;exact ih t h
    | cons z zs=>
     rw[hg] at h
     rcases fJ.mp h with rfl|h
     .exact(qF (by rw[hg];exact fA)).2.2.1
     .exact ih _ h
 exact gen _ _ h
theorem zoT{D:Led}(h:LOk D){g:List zd}(hg:GOk g D.es.length D.fs.length)(hl:D.tick.length<=992):LOk (D.pick g):=by
 have hpl:=zg8 ((win D.es D.fs D.span g).filter λm=>!decide (m∈D.clos)) g;have hfl:=pE (λm=>!decide (zV m∈g)) D.tick;have h8:=hg.few;refine⟨h.es,h.fs,h.few,λm hm=>?_,h.clos,?_,h.cl⟩
 .rcases fT.mp hm with hm|hm
  .exact h.tick m (fZ.mp hm).1
  .exact zqb hg (fZ.mp (zpt hm)).1
 .show ((D.tick.filter _)++pk _ g).length<=1000;rw[fF];exact fCN (fE hfl hl) (fE hpl h8)
theorem kl(D:Led)(s:Bool)(e:Ent):(D.add s e).span=D.span:=by cases s<;>rfl
noncomputable abbrev szM(m:Mt):Nat:=(zf m).length
noncomputable def zb0(r:List zd)(m:Mt):List zd:=r.filter λy=>!decide (y∈zf m)
noncomputable def tot(S:List Mt):Nat:=(S.map szM).sum
structure Pack(r:List zd)(ms S:List Mt):Prop where
 sub:∀m∈S,m∈ms
 fit:∀m∈S,∀y∈zf m,y∈r
 dis:S.Pairwise λa b=>∀y∈zf a,y∉zf b
theorem zp1{S T:List Mt}(p:S.Perm T):tot S=tot T:=by
 unfold tot
 induction p with
 | nil=>rfl
 | cons x p ih=>simp[ih]
 | swap x y l=>simp;exact zE1
 | trans p q h1 h2=>rw[h1,h2]
theorem zhO{a b:Mt}(h:∀y∈zf a,y∉zf b):∀y∈zf b,y∉zf a:=λy hy hy'=>h y hy' hy
theorem Pack.split{r:List zd}{ms S:List Mt}{m:Mt}(P:Pack r ms S)(h:m∈S):tot S=szM m+tot (S.erase m)/\Pack (zb0 r m) ms (S.erase m):=by
 have p:=List.perm_cons_erase h;have d:=(p.pairwise_iff (R:=λa b:Mt=>∀y∈zf a,y∉zf b) (λh=>zhO h)).mp P.dis;obtain⟨d1,d2⟩:=gE.mp d;refine⟨by rw[zp1 p];rfl,λa ha=>P.sub a (fB7 ha),λa ha y hy=>?_,d2⟩;unfold zb0;rw[fZ];exact⟨P.fit a (fB7 ha) y hy,by simpa using zhO (d1 a ha) y hy⟩
theorem zli(l:List zd)(p:zd->Bool):(l.filter p).length+(l.filter λy=>!p y).length=l.length:=by
 induction l with
 | nil=>rfl
 | cons x l ih=>simp only[fA9];cases p x<;>simp<;>(first|exact zEV ih|exact zEU ih)
theorem zlK{r:List zd}{m:Mt}(hr:r.Nodup)(hm:(zf m).Nodup)(hf:∀y∈zf m,y∈r):(zb0 r m).length+szM m=r.length:=by
 have h1:(r.filter λy=>decide (y∈zf m)).length=(zf m).length:=by
  refine fBG (zbl (List.Nodup.sublist pL hr) λx hx=>by simpa using (fZ.mp hx).2) (zbl hm λx hx=>fZ.mpr ⟨hf x hx,by simpa using hx⟩)
 have:=zli r λy=>decide (y∈zf m);show (r.filter λy=>!decide (y∈zf m)).length+(zf m).length=r.length;exact zE6 h1 this
def ztc(m:Mt):Prop:=(zf m).Nodup/\zf m≠[]
section
variable{ms:List Mt}
end
theorem zlp{r b:List zd}{m:Mt}(h:jl r m=some b):(∃x t,r=x::t/\x∈zf m)/\(∀y∈zf m,y∈r)/\b=zb0 r m:=by
 cases r with
 | nil=>cases h
 | cons x t=>
  unfold jl at h;dsimp only at h;split at h
  .rename_i hc;cases h;exact zo (zaA x t rfl hc.1) hc.2 rfl
  .cases h
theorem zaK(ms:List Mt):∀{r:List zd},Pack r ms (pk ms r):=by
 intro r
 induction hl:r.length using Nat.strongRecOn generalizing r with
 | _ n ih=>
  cases r with
  | nil=>rw[zkn];exact⟨(λm hm=>nomatch hm),(λm hm=>nomatch hm),.nil⟩
  | cons x t=>
   rw[fH] at hl;cases hg:zaR ms (x::t) with
   | nil=>
    rw[zg9 hg];have P:=ih t.length (zEJ hl) rfl;exact⟨P.sub,λm hm y hy=>fB _ (P.fit m hm y hy),P.dis⟩
   | cons z zs=>
    rw[zha hg];refine zB (qF (ms:=ms) (r:=x::t) (z:=z) (by rw[hg];exact fA)) λ_ h2 h3 h4=>?_;have hlt:=qi h2;rw[fH] at hlt;refine zZ (zlp h4) λ_ h5 h6=>?_;have P:=ih z.2.length (zEW hl hlt) rfl;refine⟨λm hm=>?_,λm hm y hy=>?_,gE.mpr ⟨λm hm y hy hy'=>?_,P.dis⟩⟩
    .rcases fJ.mp hm with rfl|hm
     .exact h3
     .exact P.sub m hm
    .rcases fJ.mp hm with rfl|hm
     .exact h5 y hy
     .have:=P.fit m hm y hy;rw[h6] at this;exact(fZ.mp this).1
    .have:=P.fit m hm y hy';rw[h6] at this;have:=(fZ.mp this).2;simp[hy] at this
theorem zom{α:Type}{gs:List (List α)}(h:gs.flatten.Nodup){g g':List α}(hg:g∈gs)(hg':g'∈gs){x:α}(hx:x∈g)(hx':x∈g'):g=g':=by
 induction gs with
 | nil=>cases hg
 | cons g1 gs ih=>
  rw[fCZ,gR] at h;refine zZ h λh1 h2 h3=>?_
  rcases fJ.mp hg with e|i
  .rcases fJ.mp hg' with e'|i'
   .rw[e,e']
   .exact absurd rfl (h3 x (e▸hx) x (gP.mpr (zc g' i' hx')))
  .rcases fJ.mp hg' with e'|i'
   .exact absurd rfl (h3 x (e'▸hx') x (gP.mpr (zc g i hx)))
   .exact ih h2 i i'
theorem zbQ(D:Led):D.grps.flatten.Nodup:=by unfold Led.grps;rw[kg];exact zcY _ _
theorem zcm{D:Led}{g g':List zd}(hg:g∈D.grps)(hg':g'∈D.grps){x:zd}(hx:x∈g)(hx':x∈g'):g=g':=zom (zbQ D) hg hg' hx hx'
section
variable{D:Led}{s:Bool}{e:Ent}
theorem zlD{es fs:List Ent}{span:Int}{G:List Tr}(hG:G∈z7 (·.1) span (inO es fs)):G.Pairwise λa b=>zaL a<=zaL b:=by
 have h:G.Sublist (inO es fs):=by
  have:=fCM hG;rw[jD] at this;exact this
 exact(zeY zaL (zbA es fs)).sublist h
theorem zoy(ho:LOk D)(ho':LOk (D.add s e))(h0:0<=D.span){g:List zd}(hg:g∈(D.add s e).grps)(hn:(s,((D.row s).length:Int))∉g):g∈D.grps:=by
 unfold Led.grps at hg ⊢;rw[kl] at hg;rw[ku] at hg ⊢;refine zb (fO.mp hg) λG' hG' e1_2=>?_;subst e1_2;have hn':((e.1,(s,((D.row s).length:Int))):Tr)∉G':=λh=>hn (fO.mpr (zc _ h rfl));obtain⟨x,hx'⟩:∃x,x∈G':=fAJ _ (zeI G' hG');have hm:∀y,y∈inO (D.add s e).es (D.add s e).fs↔y∈inO D.es D.fs\/y=(e.1,(s,((D.row s).length:Int))):=λy=>zlx;have hxt:x∈inO D.es D.fs:=((hm x).mp (zaI hG' hx')).resolve_right λe=>hn' (e▸hx');refine zb (zll (f:=λt:Tr=>t.1) (span:=D.span) hxt) λG hG hx=>?_;have hs:=zef ho.es ho.fs;have hs':=zef ho'.es ho'.fs;have e1:∀y,y∈G'↔y∈G:=λy=>⟨zps h0 hs hs' hm hG hG' hx hx' hn' y,zfW h0 hs hs' hm hG hG' hx hx' y⟩
 have:G'=G:=List.Perm.eq_of_pairwise (λa b ha hb h1 h2=>zeP (jJ ho'.es ho'.fs (inO_mem.mp (zaI hG' ha))).1 (jJ ho.es ho.fs (inO_mem.mp (zaI hG hb))).1 (fBG h1 h2)) (zlD hG') (zlD hG) ((fCR (ziH hG').1 (ziH hG).1).mpr e1);rw[this];exact fO.mpr (zc G hG rfl)
theorem zmu(ho:LOk D)(ho':LOk (D.add s e))(h0:0<=D.span){g:List zd}(hg:g∈D.grps):∃g'∈(D.add s e).grps,∀y∈g,y∈g':=by
 unfold Led.grps at hg ⊢;rw[kl,ku];rw[ku] at hg;refine zb (fO.mp hg) λG hG e3_2=>?_;subst e3_2;obtain⟨x,hx⟩:∃x,x∈G:=fAJ _ (zeI G hG);have hm:∀y,y∈inO (D.add s e).es (D.add s e).fs↔y∈inO D.es D.fs\/y=(e.1,(s,((D.row s).length:Int))):=λy=>zlx;refine zb (zll (f:=λt:Tr=>t.1) (span:=D.span) ((hm x).mpr (.inl (zaI hG hx)))) λG' hG' hx'=>?_;refine zc _ (fO.mpr (zc G' hG' rfl)) (λy hy=>?_);refine zb (fO.mp hy) λt ht e5_2=>?_;subst e5_2;exact fO.mpr (zc t (zfW h0 (zef ho.es ho.fs) (zef ho'.es ho'.fs) hm hG hG' hx hx' t ht) rfl)
end
theorem zbp{es:List Ent}{e:Ent}{p:Int}(h0:0<=p)(h1:p<es.length):jY (es++[e]) p=jY es p/\zF (es++[e]) p=zF es p:=by
 unfold jY zF;have:p.toNat<es.length:=zEw h0 h1;rw[fS,pF this,<-fS];exact⟨rfl,rfl⟩
theorem zdQ{f f':Int->Int}{l:List Int}(h:∀p∈l,f p=f' p):l.map f=l.map f':=pK h
theorem zqB{D:Led}{s:Bool}{e:Ent}{m:Mt}(h1:∀p∈m.1,0<=p/\p<D.es.length)(h2:∀p∈m.2,0<=p/\p<D.fs.length):zaW (D.add s e).es (D.add s e).fs (D.add s e).span m=zaW D.es D.fs D.span m:=by
 have a1:m.1.map (zF (D.add s e).es)=m.1.map (zF D.es)/\m.1.map (jY (D.add s e).es)=m.1.map (jY D.es):=by
  cases s with
  | false=>exact⟨zdQ λp hp=>(zbp (h1 p hp).1 (h1 p hp).2).2,zdQ λp hp=>(zbp (h1 p hp).1 (h1 p hp).2).1⟩
  | true=>exact⟨rfl,rfl⟩
 have a2:m.2.map (zF (D.add s e).fs)=m.2.map (zF D.fs)/\m.2.map (jY (D.add s e).fs)=m.2.map (jY D.fs):=by
  cases s with
  | false=>exact⟨rfl,rfl⟩
  | true=>exact⟨zdQ λp hp=>(zbp (h2 p hp).1 (h2 p hp).2).2,zdQ λp hp=>(zbp (h2 p hp).1 (h2 p hp).2).1⟩
 unfold zaW kn;rw[a1.1,a1.2,a2.1,a2.2,kl]
theorem zfF{D:Led}{g:List zd}(hg:g∈D.grps){m:zd}(hm:m∈g):0<=m.2/\m.2<(D.row m.1).length:=by
 have:m∈(inO D.es D.fs).map (·.2):=by rw[<-kg D.es D.fs D.span];exact gP.mpr (zc g hg hm)
 refine zb (mem_inO.mp this) λk h1 h2=>?_;unfold Led.row;rw[h1];exact zwm h2
structure FitM(D:Led)(m:Mt):Prop where
 sm:SmM m
 r1:Rise m.1 D.es.length
 r2:Rise m.2 D.fs.length
 one:min m.1.length m.2.length=1
 fit:zaW D.es D.fs D.span m=true
structure Inv(D:Led):Prop where
 ok:LOk D
 lo:0<=D.span
 hi:D.span<=30
 few:∀g∈D.grps,g.length<=8
 whole:∀m∈D.tick,∃g∈D.grps,∀y∈zf m,y∈g
 apart:D.tick.Pairwise λa b=>∀y∈zf a,y∉zf b
 fits:∀m∈D.tick,FitM D m
 free:∀m∈D.tick,m∉D.clos
noncomputable def Led.able(D:Led)(g:List zd):List Mt:=(win D.es D.fs D.span g).filter λm=>!decide (m∈D.clos)
theorem FitM.go{D:Led}{m:Mt}(h:FitM D m):zm0 m:=by
 refine(zo h.sm (λe=>?_) (λe=>?_))<;>have:=h.one<;>rw[e,gU] at this<;>simp at this
theorem mem_marks{m:Mt}{y:zd}:y∈zf m↔(y.1=false/\y.2∈m.1)\/(y.1=true/\y.2∈m.2):=by
 obtain⟨b,k⟩:=y;unfold zf;rw[fT,fO,fO];constructor
 .rintro(⟨x,hx,e⟩|⟨x,hx,e⟩)<;>cases e
  .exact .inl ⟨rfl,hx⟩
  .exact .inr ⟨rfl,hx⟩
 .rintro(⟨h1,h2⟩|⟨h1,h2⟩)
  .have h1:b=false:=h1;subst h1;exact .inl (zc k h2 rfl)
  .have h1:b=true:=h1;subst h1;exact .inr (zc k h2 rfl)
theorem qP{m:Mt}(h:zm0 m):zf m≠[]:=λe=>by
 have:=congrArg List.length e;unfold zf at this;rw[fF,fC,gU] at this;exact h.2.1 (gY.mp (zwe this))
theorem qO{m:Mt}(h:zf m≠[]):zV m∈zf m:=by
 unfold zV;cases hm:zf m with
 | nil=>exact absurd hm h
 | cons y l=>exact fA
theorem zeO{l:List Int}{n:Int}(h:Rise l n):l.Nodup:=h.1.imp λh e=>zEv h e
theorem zol{D:Led}{m:Mt}(h:FitM D m):ztc m:=by
 refine⟨?_,qP h.go⟩;unfold zf;rw[gR];refine zo (zaf (zeO h.r1) λa _ b _ e=>by cases e;rfl) (zaf (zeO h.r2) λa _ b _ e=>by cases e;rfl) (λa ha b hb e=>?_);refine zb (fO.mp ha) λx _ e1_2=>?_;subst e1_2;refine zb (fO.mp hb) λy _ e2_2=>?_;subst e2_2;cases e
theorem zcv{D:Led}{g:List zd}(hg:GOk g D.es.length D.fs.length){m:Mt}(h:m∈win D.es D.fs D.span g):FitM D m/\∀y∈zf m,y∈g:=by
 have h1:=(zX ..).mem_iff.mp h;refine jC (zd2 hg h1) λa b c d e=>?_;refine⟨⟨a,b,c,d,e⟩,λy hy=>?_⟩;refine zb (gL.mp h1) λz _ hz=>?_;refine jC (mem_bySz.mp hz) λ_ u1 _ u2 _=>?_;obtain⟨s,k⟩:=y
 rcases mem_marks.mp hy with⟨h2,h3⟩|⟨h2,h3⟩
 .have h2:s=false:=h2;subst h2;exact ups_mem.mp (u1.2 k h3)
 .have h2:s=true:=h2;subst h2;exact ups_mem.mp (u2.2 k h3)
theorem qM{D:Led}{g:List zd}{m:Mt}(h:m∈D.able g):m∈win D.es D.fs D.span g/\m∉D.clos:=by
 obtain⟨h1,h2⟩:=fZ.mp h;exact⟨h1,by simpa using h2⟩
theorem zgF{D:Led}(h:LOk D){g:List zd}(hg:g∈D.grps)(h8:g.length<=8):GOk g D.es.length D.fs.length:=zcl hg h8 h.few
theorem zl2(D:Led)(s:Bool)(e:Ent):D.es.length<=(D.add s e).es.length/\D.fs.length<=(D.add s e).fs.length:=by
 cases s
 .exact⟨by show _<=(D.es++[e]).length;rw[fF];exact zk1,fN _⟩
 .exact⟨fN _,by show _<=(D.fs++[e]).length;rw[fF];exact zk1⟩
theorem zok{D:Led}{s:Bool}{e:Ent}{m:Mt}(h:FitM D m):FitM (D.add s e) m:=by
 have hl:=zl2 D s e;exact⟨h.sm,⟨h.r1.1,λp hp=>by have:=h.r1.2 p hp;exact zEx hl this⟩,⟨h.r2.1,λp hp=>by have:=h.r2.2 p hp;exact zEy hl this⟩,h.one,by rw[zqB h.r1.2 h.r2.2];exact h.fit⟩
theorem kX(D:Led)(s:Bool)(e:Ent):(D.add s e).tick=D.tick:=by cases s<;>rfl
theorem zd0(D:Led)(s:Bool)(e:Ent):(D.add s e).clos=D.clos:=by cases s<;>rfl
section
variable{D:Led}{s:Bool}{e:Ent}{g:List zd}
theorem ztk(hg:g∈D.grps){m:Mt}(hw:∃g'∈D.grps,∀y∈zf m,y∈g')(hne:zf m≠[])(hf:zV m∉g):∀y∈zf m,y∉g:=λy hy h=>by
 refine zb hw λg' h1 h2=>?_;rw[zcm h1 hg (h2 y hy) h] at h2;exact hf (h2 _ (qO hne))
theorem zeK(ho:LOk D)(lo:0<=D.span)(hi:D.span<=30)(few:∀g∈D.grps,g.length<=8)(whole:∀m∈D.tick,∃g∈D.grps,∀y∈zf m,y∈g)(apart:D.tick.Pairwise λa b=>∀y∈zf a,y∉zf b)(fits:∀m∈D.tick,FitM D m)(free:∀m∈D.tick,m∉D.clos)
  (hg:g∈D.grps)(tl:D.tick.length<=992):Inv (D.pick g):=by
 have h8:=few g hg;have hgo:=zgF ho hg h8;have P:=zaK (D.able g) (r:=g);refine⟨zoT ho hgo tl,lo,hi,few,λm hm=>?_,?_,λm hm=>?_,λm hm=>?_⟩
 .rcases fT.mp hm with hm|hm
  .exact whole m (fZ.mp hm).1
  .exact zc g hg (P.fit m hm)
 .refine gG.mpr (zo (apart.sublist pL) P.dis (λa ha b hb y hy hy'=>?_));obtain⟨h1,h2⟩:=fZ.mp ha;exact ztk hg (whole a h1) (qP (fits a h1).go) (by simpa using h2) y hy (P.fit b hb y hy')
 .rcases fT.mp hm with hm|hm
  .have:=fits m (fZ.mp hm).1;exact⟨this.sm,this.r1,this.r2,this.one,this.fit⟩
  .have:=(zcv hgo (qM (P.sub m hm)).1).1;exact⟨this.sm,this.r1,this.r2,this.one,this.fit⟩
 .rcases fT.mp hm with hm|hm
  .exact free m (fZ.mp hm).1
  .exact(qM (P.sub m hm)).2
theorem zqn(h:Inv D)(ho':LOk (D.add s e))(hg:g∈(D.add s e).grps)(hm:(s,((D.row s).length:Int))∈g)(h8:g.length<=8):∀g'∈(D.add s e).grps,g'.length<=8:=λg' hg'=>by
 by_cases hn:(s,((D.row s).length:Int))∈g'
 .rw[zcm hg' hg hn hm];exact h8
 .exact h.few g' (zoy h.ok ho' h.lo hg' hn)
theorem zlF(h:Inv D)(ho':LOk (D.add s e))(hg:g∈(D.add s e).grps)(hm:(s,((D.row s).length:Int))∈g)(h8:g.length<=8)(tl:D.tick.length<=992):Inv ((D.add s e).pick g):=by
 refine zeK ho' (by rw[kl];exact h.lo) (by rw[kl];exact h.hi) (zqn h ho' hg hm h8) ?_ ?_ ?_ ?_ hg (by rw[kX];exact tl)
 .intro m hm;rw[kX] at hm;refine zb (h.whole m hm) λg1 h1 h2=>?_;refine zb (zmu (s:=s) (e:=e) h.ok ho' h.lo h1) λg2 h3 h4=>?_;exact zc g2 h3 (λy hy=>h4 y (h2 y hy))
 .rw[kX];exact h.apart
 .intro m hm;rw[kX] at hm;exact zok (h.fits m hm)
 .intro m hm;rw[kX] at hm;rw[zd0];exact h.free m hm
end
noncomputable def Led.take(D:Led)(m:Mt):Led:={ D with tick:=D.tick.erase m,clos:=D.clos++[m] }
theorem ze2{D:Led}(h:Inv D):D.tick.Nodup:=by
 refine(h.apart.imp_of_mem (S:=λa b=>a≠b) λ{a b} ha hb hd e=>?_);subst e;exact hd _ (qO (qP (h.fits a ha).go)) (qO (qP (h.fits a ha).go))
theorem zpZ{D:Led}(h:Inv D){m:Mt}(hm:m∈D.tick)(hc:D.clos.length<1000):Inv (D.take m):=by
 have nd:=ze2 h;have sub:∀a∈D.tick.erase m,a∈D.tick:=λa ha=>fB7 ha;have ok:=h.ok;refine⟨⟨ok.es,ok.fs,ok.few,λa ha=>ok.tick a (sub a ha),λa ha=>?_,?_,?_⟩,h.lo,h.hi,h.few,λa ha=>h.whole a (sub a ha),h.apart.sublist List.erase_sublist,λa ha=>?_,λa ha hc'=>?_⟩
 .rcases fT.mp ha with ha|ha
  .exact ok.clos a ha
  .rw[fG.mp ha];exact ok.tick m hm
 .exact fE (List.erase_sublist.length_le) ok.tl
 .show (D.clos++[m]).length<=1000;rw[fF,fV];exact zvP hc
 .have:=h.fits a (sub a ha);exact⟨this.sm,this.r1,this.r2,this.one,this.fit⟩
 .rcases fT.mp hc' with hc'|hc'
  .exact h.free a (sub a ha) hc'
  .rw[fG.mp hc'] at ha;exact(List.Nodup.mem_erase_iff nd).mp ha |>.1 rfl
noncomputable def Led.again(D:Led):Led:={ D with tick:=D.grps.flatMap λg=>pk (D.able g) g }
theorem znR{D:Led}(few:∀g∈D.grps,g.length<=8)(ho:LOk D):∀(gs2 gs1:List (List zd)) (t:List Mt),D.grps=gs1++gs2->
  (gs2.foldl Led.pick { D with tick:=t++gs1.flatMap λg=>pk (D.able g) g })={ D with tick:=(t.filter λm=>!decide (zV m∈gs2.flatten))++D.grps.flatMap λg=>pk (D.able g) g }:=by
 intro gs2
 induction gs2 with
 | nil=>
  intro gs1 t e;rw[gT] at e;rw[e];have:(t.filter λm=>!decide (zV m∈([]:List (List zd)).flatten))=t:=by
   refine List.filter_eq_self.mpr λm _=>?_;rw[List.flatten_nil,Hz gD];rfl
  rw[this];rfl
 | cons g gs2 ih=>
  intro gs1 t e;rw[pM];have hgm:g∈D.grps:=by rw[e];exact gH _ fA
  have e':D.grps=(gs1++[g])++gs2:=by rw[e,gF];rfl
  have ep:Led.pick { D with tick:=t++gs1.flatMap λg=>pk (D.able g) g } g={ D with tick:=(t.filter λm=>!decide (zV m∈g))++(gs1++[g]).flatMap λg=>pk (D.able g) g }:=by
   have keep:((gs1.flatMap λg=>pk (D.able g) g).filter λm=>!decide (zV m∈g))=gs1.flatMap λg=>pk (D.able g) g:=by
    refine List.filter_eq_self.mpr λm hm=>?_;refine zb (gL.mp hm) λg1 h1 h2=>?_;have hg1:g1∈D.grps:=by rw[e];exact pB _ h1
    have P:=zaK (D.able g1) (r:=g1);have hgo:=(zcv (zgF ho hg1 (few g1 hg1)) (qM (P.sub m h2)).1).1.go;have hf:=P.fit m h2 _ (qO (qP hgo));rw[Hz λhfg=>?_];rfl;have hnd:=zbQ D;rw[e,List.flatten_append,gR] at hnd;exact hnd.2.2 _ (gP.mpr (zc g1 h1 hf)) _ (gP.mpr (zc g fA hfg)) rfl
   show ({ D with tick:=((t++gs1.flatMap λg=>pk (D.able g) g).filter λm=>!decide (zV m∈g))++pk (D.able g) g }:Led)=_;rw[List.filter_append,keep,List.flatMap_append,gF];simp only[pS,List.flatMap_nil,gT]
  rw[ep,ih (gs1++[g]) _ e',List.filter_filter];have:(t.filter λm=>(!decide (zV m∈gs2.flatten))&&!decide (zV m∈g))=t.filter λm=>!decide (zV m∈(g::gs2).flatten):=by
   refine List.filter_congr λm _=>?_;rw[fCZ]
   by_cases h1:zV m∈g<;>by_cases h2:zV m∈gs2.flatten<;>simp[h1,h2]
  rw[this]
theorem zd1{D:Led}(h:Inv D):D.grps.foldl Led.pick D=D.again:=by
 have:=znR h.few h.ok D.grps [] D.tick rfl;simp only[List.flatMap_nil,gT] at this;rw[this];have:(D.tick.filter λm=>!decide (zV m∈D.grps.flatten))=[]:=by
  refine List.filter_eq_nil_iff.mpr λm hm=>?_;refine zb (h.whole m hm) λg h1 h2=>?_;rw[H0 (gP.mpr (zc g h1 (h2 _ (qO (qP (h.fits m hm).go)))))];exact pU
 rw[this];rfl
theorem zfp{α β:Type}{R:β->β->Prop}{f:α->List β}{l:List α}(h1:∀a∈l,(f a).Pairwise R)(h2:l.Pairwise λa b=>∀x∈f a,∀y∈f b,R x y):(l.flatMap f).Pairwise R:=by
 induction l with
 | nil=>exact .nil
 | cons a l ih=>
  obtain⟨h3,h4⟩:=gE.mp h2;rw[pS,gG];refine zo (h1 a fA) (ih (λb hb=>h1 b (fB _ hb)) h4) (λx hx y hy=>?_);refine zb (gL.mp hy) λb hb hy=>?_;exact h3 b hb x hx y hy
theorem zfG(D:Led):D.grps.Pairwise λg g'=>∀y∈g,y∉g':=by
 have h:=zbQ D;generalize D.grps=gs at h
 induction gs with
 | nil=>exact .nil
 | cons g gs ih=>
  rw[fCZ,gR] at h;exact gE.mpr ⟨λg' hg' y hy hy'=>h.2.2 y hy y (gP.mpr (zc g' hg' hy')) rfl,ih h.2.1⟩
theorem zon{α β:Type}{f:α->List β}{c:α->Nat}:∀{l:List α},(∀a∈l,(f a).length<=c a)->(l.flatMap f).length<=(l.map c).sum:=by
 intro l
 induction l with
 | nil=>intro _;exact fN _
 | cons a l ih=>
  intro h;rw[pS,fF,gJ,List.sum_cons];have:=h a fA;have:=ih λb hb=>h b (fB _ hb);exact zE4 (by assumption) this
theorem znT(D:Led):D.again.tick.length<=D.es.length+D.fs.length:=by
 have h1:=zon (f:=λg=>pk (D.able g) g) (c:=λg=>g.length) (l:=D.grps) λg _=>zg8 _ _;have h2:(D.grps.map λg=>g.length).sum=D.grps.flatten.length:=by rw[List.length_flatten]
 have h3:D.grps.flatten.length=D.es.length+D.fs.length:=by unfold Led.grps;rw[kg,fC,zax]
 show (D.grps.flatMap λg=>pk (D.able g) g).length<=_;exact zE7 h1 h2 h3
theorem zl4{D:Led}(h:Inv D):Inv D.again:=by
 have ok:=h.ok;have mem:∀m∈D.again.tick,∃g∈D.grps,m∈pk (D.able g) g:=λm hm=>gL.mp hm;have fit:∀m∈D.again.tick,FitM D m/\m∉D.clos:=λm hm=>by
  refine zb (mem m hm) λg h1 h2=>?_;have:=qM ((zaK (D.able g) (r:=g)).sub m h2);exact⟨(zcv (zgF ok h1 (h.few g h1)) this.1).1,this.2⟩
 have tl:=znT D;have few:=ok.few;refine⟨⟨ok.es,ok.fs,ok.few,λm hm=>(fit m hm).1.go,ok.clos,zEX tl few,ok.cl⟩,h.lo,h.hi,h.few,λm hm=>?_,?_,λm hm=>?_,λm hm=>(fit m hm).2⟩
 .refine zb (mem m hm) λg h1 h2=>?_;exact zc g h1 ((zaK (D.able g) (r:=g)).fit m h2)
 .refine zfp (λg _=>(zaK (D.able g) (r:=g)).dis) ((zfG D).imp λ{g g'} hd a ha b hb y hy hy'=>?_);exact hd y ((zaK (D.able g) (r:=g)).fit a ha y hy) ((zaK (D.able g') (r:=g')).fit b hb y hy')
 .have:=(fit m hm).1;exact⟨this.sm,this.r1,this.r2,this.one,this.fit⟩
section
variable{D:Led}{s:Bool}{e:Ent}{g g':List zd}
theorem zow(hg:g∈D.grps):g≠[]:=by
 unfold Led.grps at hg;rw[ku] at hg;refine zb (fO.mp hg) λG hG e1_2=>?_;subst e1_2;exact λe=>zeI G hG (List.map_eq_nil_iff.mp e)
end
noncomputable def qJ(ps:List Int)(i j:Nat):List (List Int):=(List.range' (j+1) (ps.length-(j+1))).flatMap λk=>[[ps.getD i 0,ps.getD j 0,ps.getD k 0]]
noncomputable def zaN(ps:List Int)(i:Nat):List (List Int):=(List.range' (i+1) (ps.length-(i+1))).flatMap λj=>[ps.getD i 0,ps.getD j 0]::qJ ps i j
noncomputable def qu(ps:List Int):List (List Int):=(List.range ps.length).flatMap λi=>[ps.getD i 0]::zaN ps i
theorem zcj{ps:List Int}(h:ps.Pairwise (· < ·)){i j:Nat}(hij:i<j)(hj:j<ps.length):ps.getD i 0<ps.getD j 0:=by
 have:=fA2.mp h i j (by exact zxz hij hj) hj hij;rw[fS,fS,fU hj,fU (show i<ps.length by exact zxz hij hj)];exact this
theorem mem_rowTail{ps:List Int}{i j:Nat}{r:List Int}:r∈qJ ps i j↔∃k,j<k/\k<ps.length/\r=[ps.getD i 0,ps.getD j 0,ps.getD k 0]:=by
 unfold qJ;rw[gL];constructor
 .intro hR1;refine zb hR1 λk hk h=>?_;have:=fAG.mp hk;exact zr k (zxw this) (znM this) (fG.mp h)
 .intro hR2;refine zh hR2 λk h1 h2 e2_3=>?_;subst e2_3;exact zc k (fAG.mpr (zxy h1 h2)) (fG.mpr rfl)
theorem mem_rowMid{ps:List Int}{i:Nat}{r:List Int}:r∈zaN ps i↔∃j,i<j/\j<ps.length/\(r=[ps.getD i 0,ps.getD j 0]\/r∈qJ ps i j):=by
 unfold zaN;rw[gL];constructor
 .intro hR3;refine zb hR3 λj hj h=>?_;have:=fAG.mp hj;exact zr j (zxw this) (znM this) (fJ.mp h)
 .intro hR4;refine zh hR4 λj h1 h2 h=>?_;exact zc j (fAG.mpr (zxy h1 h2)) (fJ.mpr h)
theorem mem_rowsL{ps:List Int}{r:List Int}:r∈qu ps↔∃i,i<ps.length/\(r=[ps.getD i 0]\/r∈zaN ps i):=by
 unfold qu;rw[gL];constructor
 .intro hR5;refine zb hR5 λi hi h=>?_;exact zc i (pR.mp hi) (fJ.mp h)
 .intro hR6;refine zb hR6 λi h1 h=>?_;exact zc i (pR.mpr h1) (fJ.mpr h)
theorem zbr{ps:List Int}{i:Nat}(h:i<ps.length):ps.getD i 0∈ps:=by
 rw[fS,fU h];exact fA8 h
theorem zgK{ps:List Int}{x:Int}(h:x∈ps):∃i,i<ps.length/\ps.getD i 0=x:=by
 obtain⟨i,hi,e⟩:=List.getElem_of_mem h;exact zc i hi (by rw[fS,fU hi];exact e)
theorem zoA{ps:List Int}(hp:ps.Pairwise (· < ·)){i j:Nat}(hi:i<ps.length)(h:ps.getD i 0<ps.getD j 0):i<j:=by
 rcases fB3 i j with h'|h'|h'
 .exact h'
 .rw[h'] at h;exact absurd h (fBS _)
 .have:=zcj hp h' hi;exact zER h this
theorem zaj{ps r:List Int}(hp:ps.Pairwise (· < ·)):r∈qu ps↔Up ps r/\1<=r.length/\r.length<=3:=by
 constructor
 .intro h;refine zb (mem_rowsL.mp h) λi hi h=>?_
  rcases h with rfl|h
  .exact zo ⟨pO _ _,λp hp=>by rw[fG.mp hp];exact zbr hi⟩ (fN 1) (gQ rfl)
  refine zh (mem_rowMid.mp h) λj hij hj h=>?_;have a1:=zcj hp hij hj
  rcases h with rfl|h
  .refine zo ⟨gE.mpr ⟨λx hx=>by rw[fG.mp hx];exact a1,pO _ _⟩,λp hp=>?_⟩ (gQ rfl) (gQ rfl);simp only[fJ,gD,or_false] at hp
   rcases hp with rfl|rfl
   .exact zbr hi
   .exact zbr hj
  refine zh (mem_rowTail.mp h) λk hjk hk e10_3=>?_;subst e10_3;have a2:=zcj hp hjk hk;refine zo ⟨gE.mpr ⟨λx hx=>?_,gE.mpr ⟨λx hx=>by rw[fG.mp hx];exact a2,pO _ _⟩⟩,λp hp=>?_⟩ (gQ rfl) (fN 3)
  .rcases fJ.mp hx with rfl|hx
   .exact a1
   .rw[fG.mp hx];exact fC9 a1 a2
  .simp only[fJ,gD,or_false] at hp
   rcases hp with rfl|rfl|rfl
   .exact zbr hi
   .exact zbr hj
   .exact zbr hk
 .intro hR7;refine zZ hR7 λh11_0 h3 h4=>?_;obtain⟨h1,h2⟩:=h11_0;cases r with
  | nil=>exact absurd h3 (fBK 0)
  | cons a r=>
  refine zb (zgK (h2 a fA)) λi hi e1=>?_;subst e1;refine mem_rowsL.mpr (zc i hi ?_);have p1:=gE.mp h1;cases r with
  | nil=>exact .inl rfl
  | cons b r=>
  refine zb (zgK (h2 b (fB _ fA))) λj hj e2=>?_;subst e2;refine .inr (mem_rowMid.mpr (zr j (zoA hp hi (p1.1 _ fA)) hj ?_));have p2:=gE.mp p1.2;cases r with
  | nil=>exact .inl rfl
  | cons c r=>
  refine zb (zgK (h2 c (fB _ (fB _ fA)))) λk hk e3=>?_;subst e3;refine .inr (mem_rowTail.mpr (zr k (zoA hp hj (p2.1 _ fA)) hk ?_));cases r with
  | nil=>rfl
  | cons d r=>exact absurd (fAD (fAD (fAD h4))) (fBK _)
noncomputable def zag(D:Led)(m:Mt):Bool:=(decide (m.1.length=1)||decide (m.2.length=1))&&!decide (m∈D.clos)&&zaW D.es D.fs D.span m
noncomputable def zaH(D:Led)(g:List zd):List Mt:=(qu (ups false g)).flatMap λl=>((qu (ups true g)).filter λr=>zag D (l,r)).map λr=>(l,r)
theorem zaP{g:List zd}{s:Bool}{na nb:Nat}(hg:GOk g na nb):(ups s g).Pairwise (· < ·):=by
 have p:=zX Int.toNat (zaV s g);have nd:(ups s g).Nodup:=p.nodup_iff.mpr (zkz hg.nodup);have pw:=zeY Int.toNat (zaV s g);exact(List.Pairwise.and pw nd).imp_of_mem λ{a b} ha hb hab=>by
  have h1:=(hg.inn _ (ups_mem.mp ha)).1;have h2:=(hg.inn _ (ups_mem.mp hb)).1;exact(Int.lt_or_gt_of_ne hab.2).resolve_right λh=>Nat.not_lt_of_ge hab.1 ((zaq h2 h1).mpr h)
theorem zeG{D:Led}{g:List zd}(hg:GOk g D.es.length D.fs.length){m:Mt}:m∈zaH D g↔m∈D.able g:=by
 unfold zaH Led.able win;rw[gL,fZ,(zX ..).mem_iff];unfold zqo;rw[gL];constructor
 .intro hR8;refine zb hR8 λl hl h=>?_;refine zb (fO.mp h) λr hr e19_2=>?_;subst e19_2;obtain⟨hr,ho⟩:=fZ.mp hr;refine zZ ((zaj (zaP hg)).mp hl) λu1 a1 a2=>?_;refine zZ ((zaj (zaP hg)).mp hr) λu2 b1 b2=>?_;unfold zag at ho;obtain⟨ho,hf⟩:=gA.mp ho;obtain⟨ho,hc⟩:=gA.mp ho;refine⟨(zc (l.length,r.length) ?_ (mem_bySz.mpr (jo rfl u1 rfl u2 hf))),hc⟩;have:l.length=1\/r.length=1:=by
   rcases fBQ.mp ho with h|h
   .exact .inl (H1 h)
   .exact .inr (H1 h)
  unfold szs
  rcases this with e|e
  .rw[e];have:r.length=1\/r.length=2\/r.length=3:=zxq b1 b2
   rcases this with e|e|e<;>rw[e]<;>decide
  .rw[e];have:l.length=1\/l.length=2\/l.length=3:=zxq a1 a2
   rcases this with e|e|e<;>rw[e]<;>decide
 .intro hR9;obtain⟨⟨z,hz,h⟩,hc⟩:=hR9;refine jC (mem_bySz.mp h) λe1 u1 e2 u2 hf=>?_;have hzl:∀z∈szs,1<=z.1/\z.1<=3/\1<=z.2/\z.2<=3/\(z.1=1\/z.2=1):=by decide
  refine jC (hzl z hz) λz1 z2 z3 z4 z5=>?_;refine zc m.1 ((zaj (zaP hg)).mpr (zo u1 (zxu e1 z1) (zrP e1 z2))) (fO.mpr (zc m.2 (fZ.mpr ⟨(zaj (zaP hg)).mpr (zo u2 (zxu e2 z3) (zrP e2 z4)),?_⟩) rfl));unfold zag;have hor:(decide (m.1.length=1)||decide (m.2.length=1))=true:=by
   rw[fBQ,decide_eq_true_iff,decide_eq_true_iff];exact zE3 e1 e2 z5
  show (((decide (m.1.length=1)||decide (m.2.length=1))&&!decide (m∈D.clos))&&zaW D.es D.fs D.span m)=true;rw[hor,hf,hc];rfl
section
variable{P:Hl}{X:Cx}{n:Nat}{Q:zl}{Z:XP}{Y:AHeap}
theorem zed{α:Type}(f:α->AV)(xs:List α)(k:Nat):zcd k (xs.map f)=(xs.zipIdx k).map λp=>AV.tup [.int (p.2:Nat),f p.1]:=by
 induction xs generalizing k with
 | nil=>rfl
 | cons x xs ih=>rw[gJ,zcd,ih,List.zipIdx_cons,gJ]
theorem zjh(s:Bool)(es:List Ent):(es.zipIdx 0).map (λp=>zaY (p.1.1,(s,(p.2:Int))))=(kH s es).map zaY:=by
 unfold kH;rw[gC];refine fCW λi=>?_;rw[pZ,pZ,List.getElem?_zipIdx]
 by_cases h:i<es.length
 .rw[fU h,fU (by rw[gN];exact h),List.getElem_range];show some _=some (zaY ((es.getD i (0,0)).1,_));rw[fS,fU h,fBD];rfl
 .rw[fAK (pQ.mp h),fAK (by rw[gN];exact pQ.mp h)];rfl
theorem zpQ{es fs:List Ent}(he:EsOk es)(hf:EsOk fs){r:Bool}(q:mkL r ((inO es fs).map zaY) Q Y):zf4 r ((zbA es fs).map zaY) Q Y:=by
 refine zcK ztx zsq zaL (λx hx y hy=>zeP (jJ he hf hx).1 (jJ he hf hy).1) (.inl λx hx=>?_) (λx hx y hy=>zso (jJ he hf hx).1 (jJ he hf hy).1) q;refine zb (fO.mp hx) λt _ e0_2=>?_;subst e0_2;exact jy _ _ rfl
theorem GrpAt.vN{Y':AHeap}{p r q p':Addr}{gs:List (List zd)}{rs:List Addr}(h2:Hold Y' rs (gs.map λg=>g.map zI))(h3:rs.Nodup)(h4:∀a∈rs,Y a=none)(hs:Sub Y Y')(hr:Y' r=none)(hq:(Y'.set r (.list [])) q=none)(hp:((Y'.set r (.list [])).set q (.list [.ref r])) p'=none) :
  GrpAt Y (((Y'.set r (.list [])).set q (.list [.ref r])).set p' (.list (rs.map .ref++[.ref r]))) p' (gs++[[]]):=by
 have hq':Y' q=none/\q≠r:=by
  by_cases e:q=r
  .rw[e,AHeap.wA] at hq;cases hq
  .rw[AHeap.wB _ _ e] at hq;exact⟨hq,e⟩
 have hp':Y' p'=none/\p'≠r/\p'≠q:=by
  by_cases e:p'=q
  .rw[e,AHeap.wA] at hp;cases hp
  .rw[AHeap.wB _ _ e] at hp
   by_cases e':p'=r
   .rw[e',AHeap.wA] at hp;cases hp
   .rw[AHeap.wB _ _ e'] at hp;exact zo hp e' e
 have nin:∀{x:Addr},Y' x=none->x∉rs:=λhx h=>h2.some h hx;have hf:∀{x:Addr},Y' x=none->Y x=none:=λhx=>hs.none hx;refine⟨(qm (rs++[r]) ?_ ?_ ?_ ?_),λa o e=>?_⟩
 .rw[AHeap.wA,fR];rfl
 .rw[fR];refine Hold.snoc ?_ (((h2.set (nin hr)).set (nin hq'.1)).set (nin hp'.1));rw[AHeap.wB _ _ hp'.2.1.symm,AHeap.wB _ _ hq'.2.symm];exact AHeap.wA ..
 .refine fQ.mpr ⟨λh=>?_,gR.mpr (zo h3 (fQ.mpr ⟨gD,.nil⟩) (λa ha b hb e=>?_))⟩
  .rcases fT.mp h with h|h
   .exact nin hp'.1 h
   .exact hp'.2.1 (fG.mp h)
  .rw[fG.mp hb] at e;exact nin hr (e▸ha)
 .intro a ha
  rcases fJ.mp ha with rfl|ha
  .exact hf hp'.1
  .rcases fT.mp ha with ha|ha
   .exact h4 _ ha
   .rw[fG.mp ha];exact hf hr
 .have:=hs a o e;rw[AHeap.wB _ _ (by rintro rfl;rw[hp'.1] at this;cases this),AHeap.wB _ _ (by rintro rfl;rw[hq'.1] at this;cases this),AHeap.wB _ _ (by rintro rfl;rw[hr] at this;cases this)];exact this
theorem zoo{span:Int}(ts:List Tr)(t:Tr)(b:List (List zd)×Option Int):((ts++[t]).foldl (qf span) b).2=some t.1:=by rw[fB4];rfl
theorem ze0{α:Type}{l:List α}{k:Nat}{x:α}(h:l[k]? = some x):l.take (k+1)=l.take k++[x]:=by rw[fB2,h];rfl
end
section
variable{P:Hl}{X:Cx}{n:Nat}{Q:zl}{Z:XP}{Y:AHeap}
def zo7:AS:=(Gc (Gu (Gw zQ (Gf (Ga 3) (G3 (Gb (.int 1)))) [(Gp [(Gf (Gf (Ga 2) (Ga 4)) (Gb (.int 1))),(Gf (Gf (Ga 2) (Ga 4)) (Gb (.int 2)))])])) Ge)
noncomputable def lgL(od:Addr)(span:Int)(T:List Tr)(p:Addr)(u:Option AV):Loc:=[some (.ref od),some (.int span),some (.lst (T.map zaY)),some (.ref p),u]
structure LgS(Y:AHeap)(span:Int)(T:List Tr)(xs:List Nat)(b:List (List zd)×Option Int)(k:Nat)(p:Addr)(Y':AHeap):Prop where
 hxs:xs=List.range' k (T.length-k)
 hk:k<=T.length
 hb:b=(T.take k).foldl (qf span) ([],none)
 ne:k=0\/b.1≠[]
 gr:GrpAt Y Y' p b.1
 n1:b.1.length<=k
 n2:∀g∈b.1,g.length<=k
def LgI(Y:AHeap)(od:Addr)(span:Int)(T:List Tr)(xs:List Nat)(b:List (List zd)×Option Int)(l:Loc)(Y':AHeap):Prop:=∃k p u,l=lgL od span T p u/\LgS Y span T xs b k p Y'
section
variable{od:Addr}{span:Int}{T:List Tr}{xs:List Nat}{b:List (List zd)×Option Int}{I:AHeap->Prop}{K:Loc->AHeap->Prop}{S:zT}{k:Nat}{t:Tr}{Y':AHeap}
theorem zlq{d:Dp}{gs:List (List zd)}{p:Addr}(hI:∀Y,I Y)(hT:T.length<=100000)(hk:k<T.length)(ht:T[k]? = some t)(h:GrpAt Y Y' p gs)(hne:gs≠[])(h1:gs.length<=k+1)(h2:∀g∈gs,g.length<k+1)
  (hK:∀l Y',GrpAt Y Y' p (zY gs t.2)->zY gs t.2≠[]->(zY gs t.2).length<=k+1->(∀g∈zY gs t.2,g.length<=k+1)->l=lgL od span T p (some (.int (k:Nat)))->K l Y'):zo7 d (lgL od span T p (some (.int (k:Nat)))) (Gy I K S) Gx Y':=by
 refine zbq (h.last hne) λys r g k1 k2 k3 k4=>?_;have hf:=zhA hne h1 h2 (m:=t.2);have hg:=h2 g k3;refine jv k1 (ze (zgk _ _) (zk k2 (ze (qA ht) (ze (qA ht) (zk k2 (zD (by rw[fC];exact fE hg (fE hk (fE hT (by decide)))) ?_))))));exact⟨hI _,hK _ _ (k4 t.2) hf.1 hf.2.1 hf.2.2 rfl⟩
theorem zq3{d:Nat}(hT:T.length<=100000){i:Nat}{l:Loc}(hI:∀Y,I Y)(h:LgI Y od span T (i::xs) b l Y')(hK:∀l' Y',LgI Y od span T xs (qf span b (T.getD i (0,(false,0)))) l' Y'->K l' Y'):∃l',jL (.one 4) (.int (i:Nat)) l=some l'/\zaT X ⟨d,false⟩ l' (Gy I K S) Gx Y':=by
 refine jh h λk p u el H=>?_;subst el;obtain⟨rfl,hxs',hlt⟩:i=k/\xs=List.range' (k+1) (T.length-(k+1))/\k<T.length:=by
  have hxs:=H.hxs;cases hm:T.length-k with
  | zero=>rw[hm] at hxs;cases hxs
  | succ j=>
   rw[hm,List.range'_succ] at hxs;cases hxs;exact zo rfl (by rw[show T.length-(i+1)=j by exact zwH hm]) (by exact zwI hm)
 have ht:=ju (d:=((0,(false,0)):Tr)) hlt;have hn:=ziF H.n1 H.n2;refine zc _ rfl ?_;have fin:∀gs p l Y2,gs=(if zbG span b.2 (T.getD i (0,(false,0))).1 then b.1++[[]] else b.1)->GrpAt Y Y2 p (zY gs (T.getD i (0,(false,0))).2)->zY gs (T.getD i (0,(false,0))).2≠[]->(zY gs (T.getD i (0,(false,0))).2).length<=i+1->(∀g∈zY gs (T.getD i (0,(false,0))).2,g.length<=i+1)->l=lgL od span T p (some (.int (i:Nat)))->K l Y2:=λgs p l Y2 e g1 g2 g3 g4 g5=>by
  subst e;exact hK _ _ (qW (i+1) p _ g5 ⟨hxs',hlt,by rw[ze0 ht,fB4,<-H.hb];rfl,.inr g2,g1,g3,g4⟩)
 have opn:zbG span b.2 (T.getD i (0,(false,0))).1=true->∀r,Y' r=none->∀q',(Y'.set r (.list [])) q'=none->zt (jf ((Y'.set r (.list [])).set q' (.list [.ref r])) (.ref p)) λxs=>zt (jf ((Y'.set r (.list [])).set q' (.list [.ref r])) (.ref q')) λys=>zdK (xs.length+ys.length) (∀p2,((Y'.set r (.list [])).set q' (.list [.ref r])) p2=none->zo7 ⟨d,false⟩ (lgL od span T p2 (some (.int (i:Nat)))) (Gy I K S) Gx (((Y'.set r (.list [])).set q' (.list [.ref r])).set p2 (.list (xs++ys)))):=by
  intro ho r hr q' hq';refine zE H.gr.ex λrs h1 h2 h3 h4=>?_;refine ze (zA (jc (jc h1 hr) hq')) (ze (zA (AHeap.wA ..)) (zD ?_ λp2 hp2=>?_))
  .rw[fC,zh1 h2,fC,fV];exact fE (gW H.n1) (fE hlt (fE hT (by decide)))
  .exact zlq hI hT hlt ht (GrpAt.vN (p:=p) h2 (fQ.mp h3).2 (λa ha=>h4 a (fB _ ha)) H.gr.sub hr hq' hp2) hn.1 hn.2.1 hn.2.2 λl Y2=>fin _ p2 l Y2 (by rw[if_pos ho])
 cases i with
 | zero=>exact opn (by rw[H.hb];rfl)
 | succ i=>
  have ht':=ju (d:=((0,(false,0)):Tr)) (Nat.lt_of_succ_lt hlt);have hb2:b.2=some (T.getD i (0,(false,0))).1:=by rw[H.hb,ze0 ht',zoo]
  refine ze (qA ht) ?_;refine ze (show jK (T.map zaY) (((i+1:Nat):Int)-1)=some (zaY (T.getD i (0,(false,0)))) by rw[show (((i+1:Nat):Int)-1)=(i:Int) by exact ztH];exact qA ht') ?_;refine qe (λh=>?_) λh=>?_
  .exact opn (by rw[hb2];exact H0 (Int.add_lt_of_lt_sub_left (H1 h)))
  .have ho:zbG span b.2 (T.getD (i+1) (0,(false,0))).1=false:=by
    rw[hb2];exact Hz λhc=>of_decide_eq_false h (Int.lt_sub_left_of_add_lt hc)
   exact zlq hI hT hlt ht H.gr (H.ne.resolve_left zEH) (pP H.n1) (λg hg=>pH (H.n2 g hg)) λl Y2=>fin _ p l Y2 (by rw[ho];rfl)
end
theorem kQ(G:Gd X (hK P))(hd:n<580){od ob ok:Addr}{F:List (Nat×AV)}{es fs:List Ent}{span:Int}(h0:Y od=some (.idict F))(f0:kO F 0=some (.ref ob))(f1:kO F 1=some (.ref ok))(hb:Y ob=some (.list (es.map zz)))(hk:Y ok=some (.list (fs.map zz)))(he:EsOk es)(hf:EsOk fs)
  (q:Q (.lst ((grps es fs span).map gAV)) Y):CallOk X 261 ⟨n,false⟩ [.ref od,.int span] Q Z Y:=by
 refine zgP G (fY hd (by decide)) λL=>?_;have l1:=he.len;have l2:=hf.len;refine z0 h0 (ze f0 ?_);refine ze (zA hb) ?_;rw[zed];refine zP (λp=>zaY (p.1.1,(false,(p.2:Int)))) (λ_=>rfl) (λ_ _=>rfl) (λp hp R q=>q) hb (by rw[fBE];exact zcR l1) ?_;refine z0 h0 (ze f1 ?_);refine ze (zA hk) ?_;rw[zed];refine zP (λp=>zaY (p.1.1,(true,(p.2:Int)))) (λ_=>rfl) (λ_ _=>rfl) (λp hp R q=>q) hk (by rw[fBE];exact zcR l2) ?_;refine zD (by rw[fC,fC,fBE,fBE];exact zrQ l1 l2) ?_;rw[zjh,zjh,<-fR];refine zpQ he hf ?_;intro p hp;have hT:(inO es fs).length<=100000:=by have:=zax es fs;exact zvD l1 l2 this
 have fin:∀l Y',LgI Y od span (inO es fs) [] ((List.range (inO es fs).length).foldl (λb i=>qf span b ((inO es fs).getD i (0,(false,0)))) ([],none)) l Y'->∃p u,l=lgL od span (inO es fs) p u/\GrpAt Y Y' p (grps es fs span):=λl Y' h=>by
  refine jh h λk p u el H=>?_;have hk':k=(inO es fs).length:=by
   have hxs:=H.hxs;cases hm:(inO es fs).length-k with
   | zero=>exact zEK H.hk hm
   | succ j=>rw[hm] at hxs;cases hxs
  have hb:=H.hb;rw[hk',List.take_length] at hb;exact zaA p u el (by have:=H.gr;rw[hb] at this;exact this)
 have ini:LgI Y od span (inO es fs) (List.range (inO es fs).length) ([],none) (lgL od span (inO es fs) p none) (Y.set p (.list [])):=qW 0 p _ rfl ⟨List.range_eq_range',fX _,rfl,.inl rfl,⟨qm [] (AHeap.wA ..) .nil (fQ.mpr ⟨gD,.nil⟩) (λa ha=>by rw[fG.mp ha];exact hp),zL hp⟩,fN _,λg hg=>nomatch hg⟩;generalize inO es fs=T at hT fin ini ⊢
 conv=>whnf
 rw[fC];refine zcA (fE hT (by decide)) ?_;refine zw (g:=λi:Nat=>AV.int i) (LgI Y od span T) (λb i=>qf span b (T.getD i (0,(false,0)))) (λi xs b l Y' K S_ h hK=>zq3 hT (λ_=>trivial) h hK) (b:=([],none)) (λl Y' h=>?_) ini;refine js (fin l Y' h) λp u el hG=>?_;subst el;refine zE hG.ex λrs h1 h2 h3 h4=>?_;refine Ends.lists hG.sub h1 h2 h3 h4 ?_;rw[gC];exact q
end
noncomputable def zjT(ps:List Int)(v:Int):Nat:=Classical.epsilon λj=>j<ps.length/\ps.getD j 0=v
theorem zfM{ps:List Int}(hp:ps.Pairwise (· < ·)){i:Nat}(hi:i<ps.length):zjT ps (ps.getD i 0)=i:=by
 have h:=Classical.epsilon_spec (p:=λj=>j<ps.length/\ps.getD j 0=ps.getD i 0) ⟨i,hi,rfl⟩;have h:zjT ps (ps.getD i 0)<ps.length/\ps.getD (zjT ps (ps.getD i 0)) 0=ps.getD i 0:=h
 rcases fB3 (zjT ps (ps.getD i 0)) i with q|q|q
 .exact absurd h.2 (Int.ne_of_lt (zcj hp q hi))
 .exact q
 .exact absurd h.2.symm (Int.ne_of_lt (zcj hp q h.1))
theorem zdy{ps r:List Int}{i j:Nat}(h:r∈qJ ps i j):r.length=3:=by
 refine zh (mem_rowTail.mp h) λk _ _ e=>?_;rw[e];rfl
theorem zku{ps r:List Int}{i:Nat}(h:r∈zaN ps i):2<=r.length:=by
 refine zh (mem_rowMid.mp h) λj _ _ e=>?_
 rcases e with e|e
 .rw[e];exact fN 2
 .rw[zdy e];decide
theorem zfr{ps:List Int}(hp:ps.Pairwise (· < ·))(i j:Nat):(qJ ps i j).Nodup:=by
 refine qd (λr=>zjT ps (r.getD 2 0)) List.nodup_range' (λ_ _=>fQ.mpr ⟨gD,.nil⟩) λk hk r hr=>?_;rw[fG.mp hr];refine zfM hp (i:=k) ?_;have:=fAG.mp hk;exact znM this
theorem zhc{ps:List Int}(hp:ps.Pairwise (· < ·))(i:Nat):(zaN ps i).Nodup:=by
 refine qd (λr=>zjT ps (r.getD 1 0)) List.nodup_range' (λj _=>fQ.mpr ⟨λh=>absurd (zdy h) (λe=>nomatch e),zfr hp i j⟩) λj hj r hr=>?_;have hl:j<ps.length:=by have:=fAG.mp hj;exact znM this
 rcases fJ.mp hr with e|h
 .rw[e];exact zfM hp hl
 .refine zh (mem_rowTail.mp h) λk _ _ e=>?_;rw[e];exact zfM hp hl
theorem zdA{ps:List Int}(hp:ps.Pairwise (· < ·)):(qu ps).Nodup:=by
 refine qd (λr=>zjT ps (r.getD 0 0)) List.nodup_range (λi _=>fQ.mpr ⟨λh=>absurd (zku h) (Nat.not_succ_le_self 1),zhc hp i⟩) λi hi r hr=>?_;have hl:=pR.mp hi
 rcases fJ.mp hr with e|h
 .rw[e];exact zfM hp hl
 .refine zh (mem_rowMid.mp h) λj _ _ e=>?_
  rcases e with e|h
  .rw[e];exact zfM hp hl
  .refine zh (mem_rowTail.mp h) λk _ _ e=>?_;rw[e];exact zfM hp hl
theorem zeH{l:List Int}{rs:List (List Int)}(h:rs.Nodup):(rs.map λr=>(l,r)).Nodup:=zaf h λa _ b _ e=>congrArg Prod.snd e
theorem zm2{D:Led}{g:List zd}{na nb:Nat}(hg:GOk g na nb):(zaH D g).Nodup:=by
 refine qd (λm=>m.1) (zdA (zaP hg)) (λl _=>zeH (List.Nodup.sublist pL (zdA (zaP hg)))) λl _ m hm=>?_;refine zb (fO.mp hm) λr _ e=>?_;rw[<-e]
theorem zjj{fit:Mt->Bool}{as bs:List Int}(ha:as.Nodup)(hb:bs.Nodup):(zqo fit as bs).Nodup:=by
 refine qd (λx=>(x.1.length,x.2.length)) (by decide) (λz _=>?_) λz _ x hx=>?_
 .refine qd (λm=>m.1) (zdB ha z.1) (λl _=>zeH (List.Nodup.sublist pL (zdB hb z.2))) λl _ m hm=>(mem_matchOf.mp hm).1
 .refine jC (mem_bySz.mp hx) λh1 _ h2 _ _=>?_;rw[h1,h2]
theorem ziL{l:List Int}(h:l.Pairwise (· < ·)):l.Nodup:=h.imp λh=>Int.ne_of_lt h
theorem zhz{D:Led}{g:List zd}(hg:GOk g D.es.length D.fs.length):srt num (zaH D g)=D.able g:=by
 have hs:∀x∈zaH D g,SmM x:=λx hx=>(zd2 hg ((zX ..).mem_iff.mp (qM ((zeG hg).mp hx)).1)).1;refine(zeZ (λx hx y hy=>zg4 (hs x hx) (hs y hy)) ((fCR ?_ (zm2 hg)).mpr λm=>(zeG hg).symm) ?_).symm
 .exact List.Nodup.sublist pL ((zX ..).nodup_iff.mpr (zjj (ziL (zaP hg)) (ziL (zaP hg))))
 .exact List.Pairwise.sublist pL (zeY ..)
theorem zil{x:zd}{t:List zd}{m:Mt}(hr:(x::t).Nodup)(hm:(zf m).Nodup) :
  jl (x::t) m=if x∈zf m/\(zb0 (x::t) m).length+(zf m).length=(x::t).length then some (zb0 (x::t) m) else none:=by
 have key:(∀y∈zf m,y∈x::t)↔(zb0 (x::t) m).length+(zf m).length=(x::t).length:=by
  constructor
  .exact λh=>zlK hr hm h
  .intro h y hy;have h2:_+(zb0 (x::t) m).length=_:=zli (x::t) λy=>decide (y∈zf m);have h3:((x::t).filter λy=>decide (y∈zf m)).length=(zf m).length:=by exact zvv h h2
   refine Classical.byContradiction λhn=>?_;have h4:((x::t).filter λy=>decide (y∈zf m)).length<=((zf m).erase y).length:=zbl (List.Nodup.sublist pL hr) λz hz=>by
    have hz:=fZ.mp hz;exact(List.mem_erase_of_ne λe:z=y=>hn (e▸hz.1)).mpr (H1 hz.2)
   rw[fC2 hy] at h4;have:=List.length_pos_of_mem hy;exact zvu h h2 h4 this
 show (if x∈zf m/\∀y∈zf m,y∈x::t then some (zb0 (x::t) m) else none)=_
 by_cases h:x∈zf m/\∀y∈zf m,y∈x::t
 .rw[if_pos h,if_pos ⟨h.1,key.mp h.2⟩]
 .rw[if_neg h,if_neg λq=>h ⟨q.1,key.mpr q.2⟩]
noncomputable def zoU(ms:List Mt)(r:List zd)(b:Int)(m:Mt):Int:=match jl r m with
 | some z=>min b (jI ms z)
 | none=>b
theorem zoV{ms:List Mt}{r:List zd}(xs:List Mt):∀b:Int,xs.foldl (zoU ms r) b=((xs.filterMap (jl r)).map (jI ms)).foldl min b:=by
 induction xs with
 | nil=>exact λ_=>rfl
 | cons m xs ih=>
  intro b;rw[pM,ih];unfold zoU;rw[fCJ];cases jl r m<;>rfl
theorem zs1(ms:List Mt)(x:zd)(t:List zd):ms.foldl (zoU ms (x::t)) (1+jI ms t)=jI ms (x::t):=by
 rw[zoV];exact IsMin.vP (zej _ _) ((zsd ms).cons x t)
section
variable{P:Hl}{X:Cx}{n:Nat}{Q:zl}{Z:XP}{Y:AHeap}
theorem zpn{a b:Nat}{K:List AV->Prop}(ha:a<=1000000)(hb:b<=1000000)(h:K ((List.range' a (b-a)).map λi:Nat=>AV.int i)):onB (zdx a b) (K (ziO a b)):=by
 refine jd ?_ ?_
 .unfold zdx;rw[fCQ,fCQ,gA];exact⟨fA1 (by exact ztF ha),fA1 (ztF hb)⟩
 .have e:ziO a b=(List.range' a (b-a)).map λi:Nat=>AV.int i:=by
   unfold ziO;rw[zlm,List.range'_eq_map_range,gC,show ((b:Int)-(a:Int)).toNat=b-a by exact zEQ];exact pK λi _=>congrArg AV.int (by show (a:Int)+i=((a+i:Nat):Int);exact zEP)
  rw[e];exact h
theorem ziN{a m i:Nat}{xs:List Nat}(h:i::xs=List.range' a m):i=a/\∃j,m=j+1/\xs=List.range' (a+1) j:=by
 cases m with
 | zero=>cases h
 | succ j=>rw[List.range'_succ] at h;cases h;exact kP rfl j rfl rfl
def zpD(Y:AHeap)(p:Addr)(L:Loc->Prop)(c N:Nat)(ps:List Int)(xs:List Nat)(b:List (List Int))(l:Loc)(Y':AHeap):Prop:=Y'=Y.set p (.list (b.map jE))/\L l/\b.length+c*xs.length<=N/\∀i∈xs,i<ps.length
noncomputable def lrL(ps:List Int)(p:Addr)(u v w:Option AV):Loc:=[some (.lst (ps.map .int)),some (.ref p),u,v,w]
section
variable{ps:List Int}{p:Addr}{I:AHeap->Prop}{K:Loc->AHeap->Prop}{S_:zT}{d:Nat}{i j:Nat}{b:List (List Int)}
theorem zfw(h:i<ps.length):jK (ps.map AV.int) (i:Int)=some (.int (ps.getD i 0)):=qA (ju h)
theorem zq4{k:Nat}(hi:i<ps.length)(hj:j<ps.length)(hk:k<ps.length)(hb:b.length<1000)(hI:∀Y,I Y)(hK:K (lrL ps p (some (.int i)) (some (.int j)) (some (.int k))) (Y.set p (.list ((b++[[ps.getD i 0,ps.getD j 0,ps.getD k 0]]).map jE)))) :
  zab X ⟨d,false⟩ (lrL ps p (some (.int i)) (some (.int j)) (some (.int k))) (Gy I K S_) Gx (Y.set p (.list (b.map jE))):=by
 refine zk (AHeap.wA ..) (ze (zfw hi) (ze (zfw hj) (ze (zfw hk) (zk (AHeap.wA ..) (zD (by rw[fC];exact fE hb (by decide)) ?_)))))
 conv=>whnf
 rw[jX];rw[fR] at hK;exact⟨hI _,hK⟩
theorem zs2{w:Option AV}(hl:ps.length<=8)(hi:i<ps.length)(hj:j<ps.length)(hb:b.length<=900)(hI:∀Y,I Y)(hK:∀w,K (lrL ps p (some (.int i)) (some (.int j)) w) (Y.set p (.list ((b++([ps.getD i 0,ps.getD j 0]::qJ ps i j)).map jE)))) :
  zaa X ⟨d,false⟩ (lrL ps p (some (.int i)) (some (.int j)) w) (Gy I K S_) Gx (Y.set p (.list (b.map jE))):=by
 refine zk (AHeap.wA ..) (ze (zfw hi) (ze (zfw hj) (zk (AHeap.wA ..) (zD (by rw[fC];exact fE (gW hb) (by decide)) ?_))))
 conv=>whnf
 rw[fC,jX];refine zpn (a:=j+1) (b:=ps.length) (zxv hl hj) (zjg hl) ?_;refine zw (g:=λk:Nat=>AV.int k) (zpD Y p (λl=>∃w,l=lrL ps p (some (.int i)) (some (.int j)) w) 1 (b.length+9) ps) (λd k=>d++[[ps.getD i 0,ps.getD j 0,ps.getD k 0]]) (λk zs d l Y' K'' S_ hR hK''=>?_) (b:=b++[[ps.getD i 0,ps.getD j 0]]) (λl Y' hR=>?_) (zp (by rw[fR];rfl) ⟨_,rfl⟩ (by rw[fAN,fF,fV,fCY];exact zE0 hl) (λk hk=>by have:=fAG.mp hk;exact znM this))
 .obtain⟨rfl,⟨w,rfl⟩,hdl,hz⟩:=hR;rw[fH,fCY] at hdl;exact zc _ rfl (zq4 hi hj (hz k fA) (by exact zvK hb hdl) (λ_=>trivial) (hK'' _ _ (zp rfl ⟨_,rfl⟩ (by rw[fF,fV,fCY];exact zET hdl) (λk hk=>hz k (fB _ hk)))))
 .obtain⟨rfl,⟨w,rfl⟩,_,_⟩:=hR;rw[jN,gF];exact⟨hI _,hK w⟩
theorem zs3{v w:Option AV}(hl:ps.length<=8)(hi:i<ps.length)(hb:b.length<=600)(hI:∀Y,I Y)(hK:∀v w,K (lrL ps p (some (.int i)) v w) (Y.set p (.list ((b++([ps.getD i 0]::zaN ps i)).map jE)))) :
  k9 X ⟨d,false⟩ (lrL ps p (some (.int i)) v w) (Gy I K S_) Gx (Y.set p (.list (b.map jE))):=by
 refine zk (AHeap.wA ..) (ze (zfw hi) (zk (AHeap.wA ..) (zD (by rw[fC];exact fE (gW hb) (by decide)) ?_)))
 conv=>whnf
 rw[fC,jX];refine zpn (a:=i+1) (b:=ps.length) (zxv hl hi) (zjg hl) ?_;refine zw (g:=λj:Nat=>AV.int j) (zpD Y p (λl=>∃v w,l=lrL ps p (some (.int i)) v w) 9 (b.length+73) ps) (λc j=>c++([ps.getD i 0,ps.getD j 0]::qJ ps i j)) (λj ys c l Y' K' S_ hR hK'=>?_) (b:=b++[[ps.getD i 0]]) (λl Y' hR=>?_) (zp (by rw[fR];rfl) (jy _ _ rfl) (by rw[fAN,fF,fV];exact zFp hl) (λj hj=>by have:=fAG.mp hj;exact znM this))
 .obtain⟨rfl,⟨v,w,rfl⟩,hc,hy⟩:=hR;rw[fH] at hc;have hj:=hy j fA;have ht:(qJ ps i j).length<=8:=fE (qV (c:=1) λk _=>fN _) (by rw[fAN,Nat.mul_one];exact fE (fCA _ _) hl);exact zc _ rfl (zs2 hl hi hj (by exact zvJ hb hc) (λ_=>trivial) λw=>hK' _ _ (zp rfl (jy _ _ rfl) (by rw[fF,fH];exact zvL hc ht) (λj hj=>hy j (fB _ hj))))
 .obtain⟨rfl,⟨v,w,rfl⟩,_,_⟩:=hR;rw[jN,gF];exact⟨hI _,hK v w⟩
end
theorem zbg(G:Gd X (hK P))(hd:n<590){ps:List Int}(hl:ps.length<=8)(q:Q (.lst ((qu ps).map jE)) Y):CallOk X 268 ⟨n,false⟩ [.lst (ps.map .int)] Q Z Y:=by
 refine zfi G (fY hd (by decide)) λL=>?_;intro p hp
 conv=>whnf
 rw[fC];refine zcA (zjg hl) ?_;refine zw (g:=λi:Nat=>AV.int i) (zpD Y p (λl=>∃u v w,l=lrL ps p u v w) 73 584 ps) (λb i=>b++([ps.getD i 0]::zaN ps i)) (λi xs b l Y' K S_ hR hK=>?_) (b:=[]) (λl Y' hR=>?_) (zp rfl (jk _ _ _ rfl) (by rw[gN,gU];exact zFm hl) (λi hi=>pR.mp hi))
 .obtain⟨rfl,⟨u,v,w,rfl⟩,hb,hx⟩:=hR;rw[fH] at hb;have ht:∀j,(qJ ps i j).length<=8:=λj=>fE (qV (c:=1) λk _=>fN _) (by rw[fAN,Nat.mul_one];exact fE (fCA _ _) hl);have hm:(zaN ps i).length<=72:=fE (qV (c:=9) λj _=>gW (ht j)) (by rw[fAN];exact fE (gM 9 (fE (fCA _ _) hl)) (by decide));exact zc _ rfl (zs3 hl (hx i fA) (by exact zvH hb) (λ_=>trivial) λv w=>hK _ _ (zp rfl (jk _ _ _ rfl) (by rw[fF,fH];exact zvI hb hm) (λj hj=>hx j (fB _ hj))))
 .obtain⟨rfl,⟨u,v,w,rfl⟩,_,_⟩:=hR;rw[jN,fAH];exact Ends.vI hp q
noncomputable def qq(m:Mt):AV:=.tup [.int ((m.1.length:Int)+m.2.length),zu m]
theorem zaD(G:Gd X (hK P))(hd:n<590){m:Mt}(h1:m.1.length<=1000)(h2:m.2.length<=1000)(q:Q (.lst ((zf m).map zI)) Y):CallOk X 278 ⟨n,false⟩ [zu m] Q Z Y:=by
 refine zqW G (fY hd (by decide)) λL=>?_;refine zP (λk=>zI (false,k)) (λ_=>rfl) (λ_ _=>rfl) (λx _ R q=>q) trivial (zcR h1) ?_;refine zP (λk=>zI (true,k)) (λ_=>rfl) (λ_ _=>rfl) (λx _ R q=>q) trivial (zcR h2) ?_;refine zD (by rw[fC,fC];exact zrQ h1 h2) (Ends.same ?_);unfold zf at q;rw[fR,gC,gC] at q;exact q
theorem zlI(G:Gd X (hK P))(hd:n<590){m:Mt}(q:Q (.tup [.int ((m.1.length:Int)+m.2.length),zu m]) Y):CallOk X 312 ⟨n,false⟩ [zu m] Q Z Y:=by
 refine zs0 G (fY hd (by decide)) λL=>?_
 conv=>whnf
 rw[fC,fC];exact Ends.same q
theorem zc9{ps:List Int}(h:ps.length<=8):(qu ps).length<=584:=by
 refine fE (qV (c:=73) λi _=>?_) (by rw[gN];exact gM 73 h);rw[fH];refine gW (fE (qV (c:=9) λj _=>?_) (by rw[fAN];exact gM 9 (fE (fCA ..) h)));rw[fH];refine gW (fE (qV (c:=1) λk _=>fN 1) (by rw[fAN,Nat.mul_one];exact fE (fCA ..) h))
theorem zuv{x y z:AE}{s t r:AS}{d:Dp}{l:Loc}{S:zT}{SZ:Addr->Loc->AHeap->Prop}{b1 b2:Bool}(hx:∀(R:zl) (Z:XP),R (.bool b1) Y->x d l R Z Y)(hy:∀(R:zl) (Z:XP),R (.bool b2) Y->y d l R Z Y)(q:Gc (Gr (za2 [Gb (.bool (b1||b2)),z]) s t) r d l S SZ Y):Gc (Gr (za2 [orL [x,y],z]) s t) r d l S SZ Y:=by
 refine hx _ _ ?_;cases b1 with
 | true=>exact q
 | false=>refine hy _ _ ?_;cases b2<;>exact q
structure AbH(Y:AHeap)(D:Led)(od ob ok oc:Addr)(F:List (Nat×AV)):Prop where
 d:Y od=some (.idict F)
 f0:kO F 0=some (.ref ob)
 f1:kO F 1=some (.ref ok)
 f2:kO F 18=some (.ref oc)
 b:Y ob=some (.list (D.es.map zz))
 k:Y ok=some (.list (D.fs.map zz))
 c:Y oc=some (.list (D.clos.map zu))
noncomputable def abL(od:Addr)(span:Int)(g:List zd)(p:Addr)(u v w z:Option AV):Loc:=[some (.ref od),some (.int span),some (gAV g),some (.lst ((qu (ups false g)).map jE)),some (.lst ((qu (ups true g)).map jE)),some (.ref p),u,v,w,z]
structure AbI(Y:AHeap)(D:Led)(od:Addr)(g:List zd)(p:Addr)(lr:List Int)(N:Nat)(ys:List (List Int))(c:List Mt)(l:Loc)(Y':AHeap):Prop where
 hs:Y'=Y.set p (.list (c.map qq))
 hl:∃v w z,l=abL od D.span g p (some (jE lr)) v w z
 n:c.length+ys.length<=N
 hy:∀r∈ys,r∈qu (ups true g)
structure AbO(Y:AHeap)(D:Led)(od:Addr)(g:List zd)(p:Addr)(xs:List (List Int))(b:List Mt)(l:Loc)(Y':AHeap):Prop where
 hs:Y'=Y.set p (.list (b.map qq))
 hl:∃u v w z,l=abL od D.span g p u v w z
 n:b.length+584*xs.length<=341056
 hx:∀r∈xs,r∈qu (ups false g)
section
variable{D:Led}{od ob ok oc:Addr}{F:List (Nat×AV)}{g:List zd}{p:Addr}{I:AHeap->Prop}{K:Loc->AHeap->Prop}{S:zT}{d:Nat}
theorem zk6{s:Bool}{na nb:Nat}(hg:GOk g na nb){l:List Int}(h:l∈qu (ups s g)):(1<=l.length/\l.length<=3)/\∀p∈l,0<=p/\p<((if s then nb else na:Nat):Int):=
 zZ ((zaj (zaP hg)).mp h) λu a b=>⟨⟨a,b⟩,λp hp=>hg.inn _ (ups_mem.mp (u.2 p hp))⟩
theorem zlA{r:List Int}{R:Bool->Prop}(q:R (decide (r.length=1))):R (decide (((r.map AV.int).length:Int)=1)):=by
 have e:decide (((r.map AV.int).length:Int)=1)=decide (r.length=1):=decide_eq_decide.mpr (by rw[fC];exact⟨Int.ofNat.inj,congrArg Int.ofNat⟩);rw[e];exact q
theorem zqk(ho:LOk D)(hg:GOk g D.es.length D.fs.length)(H:AbH Y D od ob ok oc F)(hp:Y p=none)(hI:∀Y,I Y){lr:List Int}(hlr:lr∈qu (ups false g)){N:Nat}(hN:N<=400000){rr:List Int}{ys:List (List Int)}{c:List Mt}{l:Loc}{Y':AHeap}(h:AbI Y D od g p lr N (rr::ys) c l Y')
  (hK:∀l' Y',AbI Y D od g p lr N ys (c++if zag D (lr,rr) then [(lr,rr)] else []) l' Y'->K l' Y'):∃l',jL (.one 7) (jE rr) l=some l'/\zfO X ⟨d,false⟩ l' (Gy I K S) Gx Y':=by
 refine qD h.hl λv w z el=>?_;have hy:=fM.mp h.hy;have hle:=h.n;rw[fH] at hle;have hle0:c.length+ys.length<=N:=fE (fAW (fBJ _) _) hle;refine jT (zk6 hg hlr) λa12 a3=>jT (zk6 hg hy.1) λb12 b3=>?_;have a2:=a12.2;have b2:=b12.2;have k0:=jc (o':=.list (c.map qq)) H.d hp;have kb:=jc (o':=.list (c.map qq)) H.b hp;have kk:=jc (o':=.list (c.map qq)) H.k hp;have kc:=jc (o':=.list (c.map qq)) H.c hp;have kp:(Y.set p (.list (c.map qq))) p=some (.list (c.map qq)):=AHeap.wA ..;have no:∀w z,zag D (lr,rr)=false->I (Y.set p (.list (c.map qq)))/\K (abL od D.span g p (some (jE lr)) (some (jE rr)) w z) (Y.set p (.list (c.map qq))):=λw z e=>by
  rw[e,if_neg pU,gT] at hK;exact⟨hI _,hK _ _ ⟨rfl,jk _ _ _ rfl,hle0,hy.2⟩⟩
 have yes:zag D (lr,rr)=true->∀w z,I ((Y.set p (.list (c.map qq))).set p (.list (c.map qq++[qq (lr,rr)])))/\K (abL od D.span g p (some (jE lr)) (some (jE rr)) w z) ((Y.set p (.list (c.map qq))).set p (.list (c.map qq++[qq (lr,rr)]))):=λe w z=>by
  rw[e,if_pos rfl] at hK;exact⟨hI _,hK _ _ ⟨by rw[jX,fR];rfl,jk _ _ _ rfl,by rw[fF,fV,fAP,Nat.add_comm 1];exact hle,hy.2⟩⟩
 have eo:zag D (lr,rr)=((decide (lr.length=1)||decide (rr.length=1))&&!decide ((lr,rr)∈D.clos)&&(decide ((lr.map (zF D.es)).sum=(rr.map (zF D.fs)).sum)&&zdT (kn D.es D.fs (lr,rr)) D.span)):=rfl;have hs:=h.hs;subst el hs;generalize Y.set p (.list (c.map qq))=Y2 at k0 kb kk kc kp no yes ⊢;clear hK h;refine zc _ rfl ?_;refine zuv (b1:=decide (lr.length=1)) (b2:=decide (rr.length=1)) (λR Z q=>zlA (R:=λb=>R (.bool b) Y2) q) (λR Z q=>zlA (R:=λb=>R (.bool b) Y2) q) ?_;cases hor:decide (lr.length=1)||decide (rr.length=1) with
 | false=>exact no _ _ (by rw[eo,hor];rfl)
 | true=>
 refine z0 k0 (ze H.f2 ?_);refine zsQ (m:=(lr,rr)) kc ?_;cases hcl:decide ((lr,rr)∈D.clos) with
 | true=>exact no _ _ (by rw[eo,hor,hcl];rfl)
 | false=>
 rw[hor,hcl] at eo;have ae:∀p∈lr,∀{K:AV->AHeap->Prop},K (.tup [.int (jY D.es p),.int (zF D.es p)]) Y2->zcX od (.str 0) (λv Y'=>zqL v (.int p) K Y') Y2:=λp hp K q=>z0 k0 (ze H.f0 (jv kb (ze (zgj (a3 p hp).1 (a3 p hp).2) q)));have af:∀p∈rr,∀{K:AV->AHeap->Prop},K (.tup [.int (jY D.fs p),.int (zF D.fs p)]) Y2->zcX od (.str 1) (λv Y'=>zqL v (.int p) K Y') Y2:=λp hp K q=>z0 k0 (ze H.f1 (jv kk (ze (zgj (b3 p hp).1 (b3 p hp).2) q)));refine zP (g:=AV.int) (λp=>.int (jY D.es p)) (λ_=>rfl) (λ_ _=>rfl) (λp hp R q=>ae p hp q) trivial (zkZ a2) ?_;refine zP (g:=AV.int) (λp=>.int (jY D.fs p)) (λ_=>rfl) (λ_ _=>rfl) (λp hp R q=>af p hp q) trivial (zkZ b2) ?_;refine zD (by rw[fC,fC];exact zws a2 b2) ?_;refine zP (g:=AV.int) (λp=>.int (zF D.es p)) (λ_=>rfl) (λ_ _=>rfl) (λp hp R q=>ae p hp q) trivial (zkZ a2) ?_;refine zdU (ns:=lr.map (zF D.es)) (by rw[gC];rfl) (zby ho.es (znI a2)) ?_;refine zP (g:=AV.int) (λp=>.int (zF D.fs p)) (λ_=>rfl) (λ_ _=>rfl) (λp hp R q=>af p hp q) trivial (zkZ b2) ?_;refine zdU (ns:=rr.map (zF D.fs)) (by rw[gC];rfl) (zby ho.fs (znI b2)) ?_;refine qe (λhs=>?_) λhs=>no _ _ (by rw[eo,hs];rfl);have ed:lr.map (λp=>AV.int (jY D.es p))++rr.map (λp=>AV.int (jY D.fs p))=(kn D.es D.fs (lr,rr)).map .int:=by
  unfold kn;rw[fR,gC,gC];rfl
 have ne:kn D.es D.fs (lr,rr)≠[]:=λe=>by
  have:=congrArg List.length e;unfold kn at this;rw[fF,fC,fC,gU] at this;exact absurd (Nat.eq_zero_of_add_eq_zero_right this) (fC8 a12.1)
 rw[ed];refine zlw ne λM hM1 hM2=>?_;refine zgY ne λM' hM3 hM4=>?_;rw[hs,<-zf6 hM1 hM2 hM3 hM4] at eo;refine qe (λhs2=>?_) λhs2=>no _ _ (by rw[eo,hs2];rfl);have em:AV.tup [.int (((lr.map AV.int).length:Int)+((rr.map AV.int).length:Int)),.tup [jE lr,jE rr]]=qq (lr,rr):=by rw[fC,fC];rfl
 refine zk kp (zk kp (zD (by rw[fC];exact fE (fAW (gW (fX _)) _) (fE hle (fE hN (by decide)))) ?_));have:=yes (by rw[eo,hs2];rfl);rw[<-em] at this;exact this _ _
theorem znP(ho:LOk D)(hg:GOk g D.es.length D.fs.length)(H:AbH Y D od ob ok oc F)(hp:Y p=none)(hI:∀Y,I Y){lr:List Int}{xs:List (List Int)}{b:List Mt}{l:Loc}{Y':AHeap}(h:AbO Y D od g p (lr::xs) b l Y')
  (hK:∀l' Y',AbO Y D od g p xs (b++((qu (ups true g)).filter λr=>zag D (lr,r)).map λr=>(lr,r)) l' Y'->K l' Y'):∃l',jL (.one 6) (jE lr) l=some l'/\zfN X ⟨d,false⟩ l' (Gy I K S) Gx Y':=by
 refine qU h.hl λu v w z el=>?_;have hx:=fM.mp h.hx;have hle:=h.n;rw[fH] at hle;subst el;refine zc _ rfl ?_;refine zw (g:=jE) (AbI Y D od g p lr (b.length+584)) (λc r=>c++if zag D (lr,r) then [(lr,r)] else []) (λrr ys c l Y' K' S_ h hK'=>zqk ho hg H hp (λ_=>trivial) hx.1 (zvy hle) h hK') (b:=b) (λl Y' h=>?_) ⟨h.hs,jk _ _ _ rfl,fAW (zc9 (q7 hg.few)) _,λr hr=>hr⟩;refine qD h.hl λv w z el=>?_;have e:(qu (ups true g)).flatMap (λr=>if zag D (lr,r) then [(lr,r)] else [])=((qu (ups true g)).filter λr=>zag D (lr,r)).map λr=>(lr,r):=by
  generalize qu (ups true g)=rs
  induction rs with
  | nil=>rfl
  | cons r rs ih=>
   rw[pS,fA9,ih];cases zag D (lr,r)<;>rfl
 rw[jN,e] at h;have hn:=h.n;rw[gU,fA3] at hn;exact⟨hI _,hK _ _ ⟨h.hs,⟨_,_,_,_,el⟩,by lia,hx.2⟩⟩
end
theorem zqm(G:Gd X (hK P))(hd:n<570){od ob ok oc:Addr}{F:List (Nat×AV)}{D:Led}{g:List zd}(H:AbH Y D od ob ok oc F)(ho:LOk D)(hg:GOk g D.es.length D.fs.length)
  (q:Q (.lst ((D.able g).map zu)) Y):CallOk X 273 ⟨n,false⟩ [.ref od,.int D.span,gAV g] Q Z Y:=by
 refine zsT G (fY hd (by decide)) λL=>?_;have lg:=hg.few;have e1:∀s,(g.filter λm=>m.1==s).map (λm:zd=>AV.int m.2)=(zaV s g).map .int:=λs=>by unfold zaV;rw[gC];rfl
 refine zR (λm:zd=>m.1==false) (λm=>.int m.2) (λ_=>rfl) (λ_ _=>rfl) (λm hm R q=>?_) (λm hm _ R q=>q) trivial (zjg lg) ?_
 .obtain⟨b,i⟩:=m;cases b<;>exact q
 rw[e1];refine zlQ (λp hp=>(hg.inn _ (side_mem.mp hp)).1) ?_;refine zbg (G.push L) (zrK hd) (q7 (s:=false) hg.few) ?_;refine zR (λm:zd=>m.1==true) (λm=>.int m.2) (λ_=>rfl) (λ_ _=>rfl) (λm hm R q=>?_) (λm hm _ R q=>q) trivial (zjg lg) ?_
 .obtain⟨b,i⟩:=m;cases b<;>exact q
 rw[e1];refine zlQ (λp hp=>(hg.inn _ (side_mem.mp hp)).1) ?_;refine zbg (G.push L) (zrK hd) (q7 (s:=true) hg.few) ?_;intro p hp;have r1:=zc9 (q7 (s:=false) hg.few);have r2:=zc9 (q7 (s:=true) hg.few);refine zw (g:=jE) (AbO Y D od g p) (λb l=>b++((qu (ups true g)).filter λr=>zag D (l,r)).map λr=>(l,r)) (λlr xs b l Y' K S_ h hK=>znP ho hg H hp (λ_=>trivial) h hK) (b:=[]) (λl Y' h=>?_) ⟨rfl,zgJ _ _ _ _ rfl,by rw[gU,fBD];exact Nat.mul_le_mul_left 584 r1,λr hr=>hr⟩;have hs:=h.hs;rw[jN,fAH] at hs;refine qU h.hl λu v w z el=>?_;subst el hs;clear h;refine ze (zA (AHeap.wA ..)) ?_;have hs:∀x∈zaH D g,SmM x:=λx hx=>(zd2 hg ((zX ..).mem_iff.mp (qM ((zeG hg).mp hx)).1)).1;refine z8 zsp λu hu=>?_;refine zcK (xs:=zaH D g) (f:=qq) (λv=>u ((v.tup?.getD []).getD 1 .none)) (λx=>hu x) num (λx hx y hy=>zg4 (hs x hx) (hs y hy)) (.inl λv hv=>?_) (λx hx y hy=>zlo (hs x hx) (hs y hy)) ?_
 .refine zb (fO.mp hv) λx _ e=>?_;exact⟨_,_,e.symm⟩
 rw[zhz hg];refine zP zu (λ_=>rfl) (λ_ _=>rfl) (λz hz R q=>q) trivial ?_ (Ends.drop (zL hp) q);rw[<-zhz hg,(zX ..).length_eq];exact fE (qV (c:=584) λl _=>by rw[fC];exact fE (pE ..) r2) (fE (gM 584 r1) (by decide))
end
section
variable{P:Hl}{X:Cx}{n:Nat}{Q:zl}{Z:XP}{Y:AHeap}
structure KOk(ms:List Mt)(g:List zd)(kvs:Tab):Prop where
 nd:(kvs.map (·.1)).Nodup
 sub:∀k∈kvs.map (·.1),k.Sublist g
 val:∀k v,Tab.at kvs k=some v->v = .int (jI ms k)
theorem KOk.len{ms:List Mt}{g:List zd}{kvs:Tab}(h:KOk ms g kvs)(hgl:g.length<=8):kvs.length<1000000:=by
 have:=zho h.nd h.sub hgl;rw[fC] at this;exact Nat.lt_of_le_of_lt this (by decide)
theorem KOk.put{ms:List Mt}{g r:List zd}{kvs:Tab}(h:KOk ms g kvs)(hr:r.Sublist g):KOk ms g (kvs.put r (.int (jI ms r))):=by
 have hv:∀k v,Tab.at (kvs.put r (.int (jI ms r))) k=some v->v = .int (jI ms k):=λk v e=>by
  rw[Tab.wV] at e
  by_cases hk:k=r
  .rw[if_pos hk] at e;rw[hk];exact(Hy e).symm
  .rw[if_neg hk] at e;exact h.val k v e
 by_cases hk:r∈kvs.map (·.1)
 .exact⟨by rw[Tab.w0 hk];exact h.nd,by rw[Tab.w0 hk];exact h.sub,hv⟩
 .refine⟨?_,?_,hv⟩
  .rw[Tab.wZ hk,gR];exact⟨h.nd,fQ.mpr ⟨gD,.nil⟩,λa ha b hb e=>hk (fG.mp hb▸e▸ha)⟩
  .rw[Tab.wZ hk];exact λk hk=>(fT.mp hk).elim (h.sub k) λe=>by rw[fG.mp e];exact hr
theorem zpM{p:Addr}{o:AO}(h:Y p=some o):Y.set p o=Y:=by
 funext a
 by_cases e:a=p
 .rw[e,AHeap.wA,h]
 .exact AHeap.wB _ _ e
structure MsOk(ms:List Mt):Prop where
 ok:∀m∈ms,zkc m
 nd:∀m∈ms,(zf m).Nodup
 few:ms.length<=100000
theorem zik{ms:List Mt}{g:List zd}(hgn:g.Nodup)(hgl:g.length<=8)(M:MsOk ms)(N:Nat):∀{X:Cx} (G:Gd X (hK P)) {n:Nat} {Q:zl} {Z:XP} {Y:AHeap} {r:List zd} {kd:Addr} {kvs:Tab},r.length<=N->n+r.length<570->r.Sublist g->Y kd=some (.tdict kvs)->KOk ms g kvs->
  (∀kvs',KOk ms g kvs'->Q (.int (jI ms r)) (Y.set kd (.tdict kvs')))->CallOk X 283 ⟨n,false⟩ [zC r,.lst (ms.map zu),.ref kd] Q Z Y:=by
 induction N using Nat.strongRecOn with
 | _ N ih=>
 intro X G n Q Z Y r kd kvs hN hn hr hk ok q;refine zqV G (zvj hn) λL=>?_;refine zlk hk ?_;cases hat:Tab.at kvs r with
 | some v=>
  have e:=ok.val r v hat;subst e;refine zba hk hat ?_;have:=q kvs ok;rw[zpM hk] at this;exact Ends.same this
 | none=>
  have hrl:r.length<=8:=fE hr.length_le hgl;refine zcI ?_;cases r with
  | nil=>exact zbn hk (ok.len hgl) (Ends.same (q _ (ok.put hr)))
  | cons x t=>
   have hrn:=hr.nodup hgn;refine ih t.length hN (G.push L) (r:=t) (fN _) (by rw[fH] at hn;exact zvg hn) ((fBF x t).trans hr) hk ok λkvs1 ok1=>?_;refine zw (g:=zu) (λxs b l Y'=>∃kvs',KOk ms g kvs'/\Y'=Y.set kd (.tdict kvs')/\(∀m∈xs,m∈ms)/\∃u v w,l=[some (zC (x::t)),some (.lst (ms.map zu)),some (.ref kd),some (.int b),u,v,w]) (zoU ms (x::t)) ?_ (b:=1+jI ms t) ?_ ⟨kvs1,ok1,rfl,λm h=>h,_,_,_,rfl⟩
   .intro m xs b l Y' K S_ hR hK;obtain⟨kvs2,ok2,rfl,hx,u,v,w,rfl⟩:=hR;have hmm:=hx m fA;have hx':∀y∈xs,y∈ms:=λy hy=>hx y (fB _ hy);have hmo:=M.ok m hmm;refine zc _ rfl ?_;refine zaD (G.push L) (zvi hn) (znJ hmo.1) (znJ hmo.2) ?_;refine zR (g:=zI) (λy=>!decide (y∈zf m)) zI (λ_=>rfl) (λ_ _=>rfl) (λy _ R q=>inM (.inl rfl) q) (λy _ _ R q=>q) trivial (fE hrl (by decide)) ?_;refine inM (.inl rfl) ?_;have hlo:=zil (m:=m) hrn (M.nd m hmm);unfold zoU at hK;refine qe (λh=>?_) λh=>?_
    .have h:=H1 h;refine qe (λh2=>?_) λh2=>?_
     .have h2:=H1 h2;rw[fC,fC,fC] at h2;have h2:(zb0 (x::t) m).length+(zf m).length=(x::t).length:=Int.ofNat.inj h2;rw[if_pos ⟨h,h2⟩] at hlo;have hs:=zcp hlo;have hl:(zb0 (x::t) m).length<=t.length:=hs.length_le;rw[hlo] at hK;refine ih t.length hN (G.push L) (r:=zb0 (x::t) m) hl (by rw[fH] at hn;exact zvr hn hl) (hs.trans ((fBF x t).trans hr)) (AHeap.wA ..) ok2 λkvs3 ok3=>?_;rw[jX];exact⟨trivial,hK _ _ ⟨kvs3,ok3,rfl,hx',_,_,_,rfl⟩⟩
     .have h2:=of_decide_eq_false h2;rw[fC,fC,fC] at h2;rw[hlo,if_neg λq=>h2 (congrArg Int.ofNat q.2)] at hK;exact⟨trivial,hK _ _ ⟨kvs2,ok2,rfl,hx',_,_,_,rfl⟩⟩
    .have h:=of_decide_eq_false h;rw[hlo,if_neg λq=>h q.1] at hK;exact⟨trivial,hK _ _ ⟨kvs2,ok2,rfl,hx',_,_,_,rfl⟩⟩
   .intro l Y' hR;obtain⟨kvs2,ok2,rfl,_,u,v,w,rfl⟩:=hR;rw[zs1];refine zbn (AHeap.wA ..) (ok2.len hgl) ?_;refine Ends.same ?_;rw[jX];exact q _ (ok2.put hr)
end
section
variable{P:Hl}{X:Cx}{n:Nat}{Q:zl}{Z:XP}{Y:AHeap}
noncomputable def zbH(ms:List Mt)(r:List zd)(b:Option (Mt×List zd))(m:Mt):Option (Mt×List zd):=match jl r m with
 | some z=>if jI ms z=jI ms r then some (m,z) else b
 | none=>b
theorem zkk{ms:List Mt}{r:List zd}{b:Option (Mt×List zd)}{m:Mt}(h:jl r m=none):zbH ms r b m=b:=by unfold zbH;rw[h]
theorem zkl{ms:List Mt}{r z:List zd}{b:Option (Mt×List zd)}{m:Mt}(h:jl r m=some z):zbH ms r b m=if jI ms z=jI ms r then some (m,z) else b:=by unfold zbH;rw[h]
theorem zm4{ms:List Mt}{r:List zd}(xs:List Mt):xs.reverse.foldl (zbH ms r) none=((tk xs r).filter λz=>decide (jI ms z.2=jI ms r)).head?:=by
 induction xs with
 | nil=>rfl
 | cons m xs ih=>
  rw[fCV,fB4,ih];unfold tk;rw[fCJ];show zbH ms r _ m=_;unfold zbH;cases h:jl r m with
  | none=>rfl
  | some z=>
   show (if jI ms z=jI ms r then some (m,z) else _)=(List.filter _ ((m,z)::_)).head?;rw[fA9]
   by_cases e:jI ms z=jI ms r
   .rw[if_pos e,if_pos (H0 e)];rfl
   .rw[if_neg e,if_neg (by rw[Hz e];exact pU)]
theorem zkm(ms:List Mt)(r:List zd):ms.reverse.foldl (zbH ms r) none=(zaR ms r).head?:=zm4 ms
noncomputable def pkL(ms:List Mt)(g:List zd)(kd rf:Addr)(x:zd)(t:List zd)(a:Option AV)(b:Option (Mt×List zd))(u v w z:Option AV):Loc:=[some (gAV g),some (.lst (ms.map zu)),some (.ref kd),some (zC (x::t)),some (.ref rf),some (.int (jI ms (x::t))),some (zC (b.elim t (·.2))),u,v,w,z,b.elim a λp=>some (zu p.1)]
structure PkI(Y:AHeap)(ms:List Mt)(g:List zd)(kd rf:Addr)(x:zd)(t:List zd)(a:Option AV)(xs:List Mt)(b:Option (Mt×List zd))(l:Loc)(Y':AHeap):Prop where
 hh:∃kvs,KOk ms g kvs/\Y'=Y.set kd (.tdict kvs)
 hx:∀m∈xs,m∈ms
 hl:∃u v w z,l=pkL ms g kd rf x t a b u v w z
section
variable{d:Nat}{g:List zd}{ms:List Mt}{x:zd}{t:List zd}{kd rf:Addr}{a:Option AV}
theorem PkI.mk'{xs:List Mt}{b:Option (Mt×List zd)}{kvs:Tab}(ok:KOk ms g kvs)(hx:∀m∈xs,m∈ms)(u v w z:Option AV):PkI Y ms g kd rf x t a xs b (pkL ms g kd rf x t a b u v w z) (Y.set kd (.tdict kvs)):=⟨zc kvs ok rfl,hx,u,v,w,z,rfl⟩
theorem zri(G:Gd X (hK P))(hd:d<551)(hgn:g.Nodup)(hgl:g.length<=8)(M:MsOk ms)(hr:(x::t).Sublist g){m:Mt}{xs:List Mt}{b:Option (Mt×List zd)}{l:Loc}{Y':AHeap}{I:AHeap->Prop}{K:Loc->AHeap->Prop}{S:zT}(hI:∀Y,I Y)
  (h:PkI Y ms g kd rf x t a (m::xs) b l Y')(hK:∀l' Y',PkI Y ms g kd rf x t a xs (zbH ms (x::t) b m) l' Y'->K l' Y'):∃l',jL (.one 7) (zu m) l=some l'/\zaU X ⟨d,false⟩ l' (Gy I K S) Gx Y':=by
 refine qU h.hl λu v w z el=>?_;refine zb h.hh λkvs2 ok2 es=>?_;have hx:=h.hx;subst el es;clear h;have hrn:=hr.nodup hgn;have hrl:(x::t).length<=8:=fE hr.length_le hgl;have hmm:=hx m fA;have hx':∀y∈xs,y∈ms:=λy hy=>hx y (fB _ hy);have hmo:=M.ok m hmm;refine zc _ rfl ?_;refine zaD G (fY hd (by decide)) (znJ hmo.1) (znJ hmo.2) ?_;refine zR (g:=zI) (λy=>!decide (y∈zf m)) zI (λ_=>rfl) (λ_ _=>rfl) (λy _ R q=>inM (.inl rfl) q) (λy _ _ R q=>q) trivial (fE hrl (by decide)) ?_;refine inM (.inl rfl) ?_;have hlo:=zil (m:=m) hrn (M.nd m hmm);have no:∀v w z,jl (x::t) m=none->I (Y.set kd (.tdict kvs2))/\K (pkL ms g kd rf x t a b (some (zu m)) v w z) (Y.set kd (.tdict kvs2)):=λv w z e=>by
  rw[zkk e] at hK;exact⟨hI _,hK _ _ (.mk' ok2 hx' _ _ _ _)⟩
 refine qe (λh=>?_) λh=>?_
 .have h:=H1 h
  conv=>whnf
  cases hq:decide (((((x::t).filter λy=>!decide (y∈zf m)).map zI).length:Int)+((zf m).map zI).length=((x::t).map zI).length) with
  | true=>
   have hq:=H1 hq;rw[fC,fC,fC] at hq;have hq:(zb0 (x::t) m).length+(zf m).length=(x::t).length:=Int.ofNat.inj hq;rw[if_pos ⟨h,hq⟩] at hlo;have hs:=zcp hlo;rw[zkl hlo] at hK;refine zik hgn hgl M t.length G (r:=zb0 (x::t) m) hs.length_le (by have:(zb0 (x::t) m).length<=t.length:=hs.length_le;rw[fH] at hrl;exact zvC hd hrl this) (hs.trans ((fBF x t).trans hr)) (AHeap.wA ..) ok2 λkvs3 ok3=>?_;rw[jX];refine qe (λh=>?_) λh=>?_
   .refine⟨hI _,hK _ _ ?_⟩;rw[if_pos (H1 h)];exact .mk' ok3 hx' _ _ _ _
   .refine⟨hI _,hK _ _ ?_⟩;rw[if_neg (of_decide_eq_false h)];exact .mk' ok3 hx' _ _ _ _
  | false=>
   have hq:=of_decide_eq_false hq;rw[fC,fC,fC] at hq;exact no _ _ _ (by rw[hlo,if_neg λq=>hq (congrArg Int.ofNat q.2)])
 .have h:=of_decide_eq_false h;exact no _ _ _ (by rw[hlo,if_neg λq=>h q.1])
end
structure PkS(Y:AHeap)(ms:List Mt)(g:List zd)(kd rf:Addr)(r:List zd)(fs:List Mt)(kvs:Tab)(Y':AHeap):Prop where
 e:Sub Y Y'
 lf:Y' rf=some (.list (fs.map zu))
 lk:Y' kd=some (.tdict kvs)
 ok:KOk ms g kvs
 hr:r.Sublist g
 pk:fs++pk ms r=Mine.Internal.pk ms g
 len:fs.length+r.length<=8
def PkJ(Y:AHeap)(ms:List Mt)(g:List zd)(kd rf:Addr)(n:Nat)(l:Loc)(Y':AHeap):Prop:=∃r fs kvs,n=r.length/\PkS Y ms g kd rf r fs kvs Y'/\∃U:Nat->Option AV,l=[some (gAV g),some (.lst (ms.map zu)),some (.ref kd),some (zC r),some (.ref rf),U 0,U 1,U 2,U 3,U 4,U 5,U 6]
theorem zfj(G:Gd X (hK P))(hd:n<550){g:List zd}{ms:List Mt}(hgn:g.Nodup)(hgl:g.length<=8)(M:MsOk ms)(h2:∀m∈ms,2<=(zf m).length)(q:Q (.lst ((pk ms g).map zu)) Y):CallOk X 288 ⟨n,false⟩ [gAV g,.lst (ms.map zu)] Q Z Y:=by
 refine zgQ G (fY hd (by decide)) λL=>?_;intro kd hkd rf hrf;have hrf0:Y rf=none:=Sub.none (zL hkd) hrf;have hne:kd≠rf:=by rintro rfl;rw[AHeap.wA] at hrf;exact absurd hrf (fP _)
 refine⟨PkJ Y ms g kd rf,g.length,⟨g,[],[],rfl,⟨λa o h=>zL hrf a o (zL hkd a o h),AHeap.wA ..,by rw[AHeap.wB _ _ hne,AHeap.wA],⟨.nil,(λk h=>nomatch h),(λk v h=>nomatch h)⟩,List.Sublist.refl g,rfl,by rw[gU];exact zvX hgl⟩,λ_=>none,rfl⟩,?_⟩;intro N l' Y' hR;refine jh hR λr fs kvs eN hR=>?_;refine zut hR λH U el=>?_;subst el eN;refine zcI ?_;cases r with
 | nil=>
  have hpk:=H.pk;rw[zkn,gT] at hpk;rw[<-hpk] at q;exact Ends.one H.e H.lf hrf0 q
 | cons x t=>
  have hr:=H.hr;have hrn:=hr.nodup hgn;have hlen:=H.len;refine zik hgn hgl M (x::t).length (G.push L) (fN _) (zvm hd (fE hr.length_le hgl)) hr H.lk H.ok λkvs1 ok1=>?_
  conv=>whnf
  rw[<-List.map_reverse];refine zw (g:=zu) (PkI Y' ms g kd rf x t (U 6)) (zbH ms (x::t)) (λm xs b l Y'' K S_ h hK=>zri (G.push L) (gZ hd) hgn hgl M hr (λ_=>trivial) h hK) (b:=none) (λl Y'' hR=>?_) (.mk' ok1 (λm h=>fBO.mp h) _ _ _ _);rw[zkm] at hR;refine qU hR.hl λu v w z el=>zb hR.hh λkvs2 ok2 es=>?_;have lf2:Y'' rf=some (.list (fs.map zu)):=by rw[es];exact(AHeap.wB _ _ hne.symm).trans H.lf
  have lk2:Y'' kd=some (.tdict kvs2):=by rw[es,AHeap.wA]
  have e2:Sub Y Y'':=by rw[es];exact H.e.put hkd
  subst el;clear es hR;have ht:t.Sublist g:=(fBF x t).trans hr;cases hg:zaR ms (x::t) with
  | nil=>
   refine qe (λh=>?_) λh=>?_
   .have h:=H1 h;rw[fC,fC,fH] at h;exact absurd h (fBS _)
   .exact zc t.length (fCB _) ⟨t,fs,kvs2,rfl,⟨e2,lf2,lk2,ok2,ht,by rw[<-H.pk,zg9 hg],zwb hlen⟩,λi=>[_,_,_,_,_,_,_].getD i none,rfl⟩
  | cons z zs=>
   have hz:=qF (ms:=ms) (r:=x::t) (z:=z) (by rw[hg];exact fA);have h3:=qi hz.2.1;refine qe (λh=>?_) λh=>?_
   .refine zk lf2 ?_;refine zk lf2 ?_;refine zD (by rw[fC];exact zwa hlen) ?_;refine zc z.2.length (by rw[fH];exact zwj h3) ⟨z.2,fs++[z.1],kvs2,rfl,⟨e2.put hrf0,by rw[AHeap.wA,fR];rfl,by rw[AHeap.wB _ _ hne];exact lk2,ok2,(zcp hz.2.2.2).trans ht,by rw[<-H.pk,zha hg,gF];rfl,by rw[fF,fV];exact zwF hlen h3⟩,λi=>[_,_,_,_,_,_,_].getD i none,rfl⟩
   .refine absurd ?_ (of_decide_eq_false h);rw[fC,fC];have h4:=zlp hz.2.2.2;have h5:=zlK hrn (M.nd z.1 hz.2.2.1) h4.2.1;rw[<-h4.2.2] at h5;have h6:=h2 z.1 hz.2.2.1;have h7:z.2.length+(zf z.1).length=(x::t).length:=h5;clear h5 h4 h;show ((z.2.length:Nat):Int)+1<((x::t).length:Nat);exact zvB h6 h7
end
section
variable{P:Hl}{X:Cx}{n:Nat}{Q:zl}{Z:XP}{Y:AHeap}
theorem zkr(m:Mt):RdA (zu m) (.tuple [qR m.1,qR m.2]):=λY=>by
 have rdI:∀l:List Int,RdL Y (l.map .int) (l.map .int):=λl=>by
  induction l with
  | nil=>exact .nil
  | cons i l ih=>exact .cons (.int i) ih
 exact .tup (.cons (.tup (rdI _)) (.cons (.tup (rdI _)) .nil))
theorem ziB(m:Mt):(PyData.tuple [qR m.1,qR m.2]).depth<=100:=by
 have dI:∀l:List Int,PyData.depthAll (l.map .int)=0:=λl=>by
  induction l with
  | nil=>rfl
  | cons i l ih=>rw[gJ,PyData.depthAll,ih];rfl
 unfold qR;simp only[PyData.depth,PyData.depthAll,dI];decide
theorem zph(m m':Mt):PyData.eqv (.tuple [qR m.1,qR m.2]) (.tuple [qR m'.1,qR m'.2])=decide (m=m'):=by
 simp only[PyData.eqv,PyData.eqvAll,zcg,fC1];obtain⟨a,b⟩:=m;obtain⟨c,d⟩:=m'
 by_cases h1:a=c<;>by_cases h2:b=d<;>simp[h1,h2]
theorem zuQ{m:Mt}{ms:List Mt}(h:m∈ms){K:AV->List AV->Prop}(q:K .none ((ms.erase m).map zu)):rmG (ms.map zu) (zu m) K:=by
 refine zm (List.exists_erase_eq h) λpre post h1 h2 h3=>?_;unfold rmG;refine qo (pre.map zu) (zu m) (post.map zu) _ _ (by rw[h2,fR,gJ]) (zkr m) (zkr m) (by rw[zph,H0 rfl]) (ziB m) (λx hx=>?_) ?_
 .refine zb (fO.mp hx) λm' hm' e5_2=>?_;subst e5_2;exact zr _ (zkr m') (by rw[zph];exact Hz λe=>h1 (by rw[<-e];exact hm')) (ziB m')
 .rw[<-fR,<-h3];exact q
theorem nd3{a b c:Addr}:[a,b,c].Nodup↔(a≠b/\a≠c)/\b≠c:=by simp only[fQ,fJ,gD,or_false,not_or,not_false_eq_true,fDF,and_true]
theorem nd4{a b c d:Addr}:[a,b,c,d].Nodup↔(a≠b/\a≠c/\a≠d)/\(b≠c/\b≠d)/\c≠d:=by simp only[fQ,fJ,gD,or_false,not_or,not_false_eq_true,fDF,and_true]
theorem zhp(G:Gd X (hK P))(hd:n<560){a:LA}{D:Led}(h:LAt Y a D)(ho:LOk D){m:Mt}(hm:m∈D.tick)
  (q:∀Y',(∀x o,x≠a.pt->x≠a.pc->Y x=some o->Y' x=some o)->LAt Y' a (D.take m)->Q .none Y'):CallOk X 235 ⟨n,false⟩ [.ref a.self,zu m] Q Z Y:=by
 refine zif G (fY hd (by decide)) λL=>?_;refine zn h.s h.d ?_;refine zsQ h.t ?_;rw[H0 hm];refine zn h.s h.d ?_;refine zk h.t ?_;refine zk h.t ?_;refine zuQ hm ?_;have n4:=h.nd;have npc:a.pt≠a.pc/\a.pb≠a.pt/\a.pk≠a.pt/\a.pb≠a.pc/\a.pk≠a.pc:=by
  have n4:=nd4.mp n4;exact jo n4.2.2 n4.1.2.1 n4.2.1.1 n4.1.2.2 n4.2.1.2
 have nt:∀{q:Addr} {o:AO},Y q=some o->(∀xs,o≠.list xs)->q≠a.pt/\q≠a.pc:=λe ho=>⟨λq=>by rw[q,h.t] at e;cases e;exact ho _ rfl,λq=>by rw[q,h.c] at e;cases e;exact ho _ rfl⟩
 have s1:=nt h.s (λ_ q=>nomatch q);have s2:=nt h.d (λ_ q=>nomatch q);have s3:=nt h.r (λ_ q=>nomatch q);refine zn (zx h.s s1.1) (zx h.d s2.1) ?_;have kc:(Y.set a.pt (.list ((D.tick.erase m).map zu))) a.pc=some (.list (D.clos.map zu)):=zx h.c npc.1.symm;refine zk kc ?_;refine zk kc ?_;refine zD (by rw[fC];have:=ho.cl;exact zEG this) ?_;have e:D.clos.map zu++[zu m]=(D.clos++[m]).map zu:=by rw[fR];rfl
 rw[e];refine Ends.same (q _ (λx o h1 h2 e=>zx (zx e h1) h2) ⟨zx (zx h.s s1.1) s1.2,zx (zx h.d s2.1) s2.2,zx (zx h.r s3.1) s3.2,zx (zx h.b npc.2.1) npc.2.2.2.1,zx (zx h.k npc.2.2.1) npc.2.2.2.2,zx (AHeap.wA ..) npc.1,AHeap.wA ..,h.dr,h.nd⟩)
theorem zjP{D:Led}(h:Inv D):D.tick.length<=D.es.length+D.fs.length:=by
 have hne:∀m∈D.tick,zf m≠[]:=λm hm=>qP (h.fits m hm).go;have nd:(D.tick.map zV).Nodup:=by
  rw[fBM,fA4];exact h.apart.imp_of_mem λ{a b} ha hb hd e=>hd _ (qO (hne a ha)) (e▸qO (hne b hb))
 have:=zbl nd (u:=(inO D.es D.fs).map (·.2)) λy hy=>by
  refine zb (fO.mp hy) λm hm e6_2=>?_;subst e6_2;refine zb (h.whole m hm) λg h1 h2=>?_;rw[<-kg D.es D.fs D.span];exact gP.mpr (zc g h1 (h2 _ (qO (hne m hm))))
 rw[fC,fC,zax] at this;exact this
theorem znS(G:Gd X (hK P))(hd:n<530){a:LA}{D:Led}(h:LAt Y a D)(I:Inv D)
  (q:∀Y' pt',(∀x o,x≠a.dx->Y x=some o->Y' x=some o)->(pt'=a.pt\/Y pt'=none)->LAt Y' { a with pt:=pt' } D.again->Q .none Y'):CallOk X 242 ⟨n,false⟩ [.ref a.self] Q Z Y:=by
 refine zqU G (fY hd (by decide)) λL=>?_;refine zn h.s h.d ?_;refine zbB (G.push L) (zEF hd) h I.ok ?_;refine zw (g:=gAV) (λxs b l Y'=>(∃pt',(∀x o,x≠a.dx->Y x=some o->Y' x=some o)/\(pt'=a.pt\/Y pt'=none)/\LAt Y' { a with pt:=pt' } b)/\Inv b/\(b.es=D.es/\b.fs=D.fs/\b.span=D.span)/\(∀g∈xs,g∈D.grps)/\∃u,l=[some (.ref a.self),u]) Led.pick ?_ (b:=D) ?_ ⟨⟨a.pt,λ_ _ _ e=>e,.inl rfl,h⟩,I,⟨rfl,rfl,rfl⟩,λg hg=>hg,_,rfl⟩
 .intro g xs b l Y' K S_ hR1;refine zhQ hR1 λh8_0 Ib h8_2 hx u e8_5=>?_;obtain⟨pt,fr,hpt,hL⟩:=h8_0;obtain⟨e1,e2,e3⟩:=h8_2;subst e8_5;intro hK;refine zc _ rfl ?_;have hgb:g∈b.grps:=by unfold Led.grps;rw[e1,e2,e3];exact hx g fA
  have h8:=Ib.few g hgb;refine zn hL.s hL.d ?_;refine zlE (G.push L) (zEE hd) hL Ib.ok (zcl hgb h8 Ib.ok.few) λY2 pt2 fr2 hp2 hL2=>?_;have hfew:=Ib.ok.few;have Ib2:=zeK Ib.ok Ib.lo Ib.hi Ib.few Ib.whole Ib.apart Ib.fits Ib.free hgb (by have:=zjP Ib;exact zxx hfew this);refine⟨trivial,hK _ _ ⟨⟨pt2,λx o hx e=>fr2 x o hx (fr x o hx e),?_,hL2⟩,Ib2,⟨e1,e2,e3⟩,λg hg=>hx g (fB _ hg),_,rfl⟩⟩;refine .inr ?_;cases e:Y pt2 with
  | none=>rfl
  | some o=>
   by_cases hx:pt2=a.dx
   .rw[hx] at hp2;have:=hL.d;rw[hp2] at this;cases this
   .rw[fr pt2 o hx e] at hp2;cases hp2
 .intro l Y' hR2;refine zhQ hR2 λh9_0 Ib _ _ u e9_5=>?_;obtain⟨pt,fr,hpt,hL⟩:=h9_0;subst e9_5;rw[zd1 I] at hL;exact Ends.same (q Y' pt fr hpt hL)
end
section
variable{P:Hl}{X:Cx}{n:Nat}{Q:zl}{Z:XP}{Y:AHeap}
theorem zcT{xs:List AV}{c:Int}(m:Int)(h:(xs.length:Int)=m)(hp:0<m):∃v,v∈xs/\jK xs (c.fmod m)=some v:=by
 have h1:=gV c hp;have h2:=pJ c hp;obtain⟨j,hj⟩:=fAT h1;have hl:j<xs.length:=zAD h h2 hj;exact zc (xs[j]) (fA8 hl) (by rw[hj];exact atIdx_nat.trans (fU hl))
theorem zk9(c:Int):∃s:Bool,jK [AV.str 0,.str 1] (c.fmod 2)=some (.str s.toNat):=by
 refine zb (zcT (c:=c) (xs:=[AV.str 0,.str 1]) 2 rfl (by decide)) λv hv e=>?_;simp only[fJ,gD,or_false] at hv
 rcases hv with rfl|rfl
 .exact⟨false,e⟩
 .exact⟨true,e⟩
theorem zk7(D:Led)(s:Bool)(e:Ent):(D.add s e).es.length+(D.add s e).fs.length=D.es.length+D.fs.length+1:=by
 cases s
 .show (D.es++[e]).length+_=_;rw[fF,fV];show _+_+D.fs.length=_;exact zAy
 .show _+(D.fs++[e]).length=_;rw[fF,fV];show D.es.length+_=_;exact zAC
theorem LAt.other{Y:AHeap}{a:LA}{D:Led}(h:LAt Y a D){p:Addr}{o:AO}(hp:p∉a.all):LAt (Y.set p o) a D:=by
 simp only[LA.all,fJ,gD,or_false,not_or] at hp;refine zcV hp λh1 h2 h3 h4 h5 h6 h7=>?_;exact⟨zx h.s (Ne.symm h1),zx h.d (Ne.symm h2),zx h.r (Ne.symm h3),zx h.b (Ne.symm h4),zx h.k (Ne.symm h5),zx h.t (Ne.symm h6),zx h.c (Ne.symm h7),h.dr,h.nd⟩
structure OA where
 od:Addr
 ob:Addr
 ok:Addr
 oc:Addr
structure OV where
 days:Int
 scale:Int
 base:Int
 step:Int
noncomputable def OA.all(o:OA):List Addr:=[o.od,o.ob,o.ok,o.oc]
noncomputable def OA.row(o:OA)(s:Bool):Addr:=if s then o.ok else o.ob
noncomputable def zkh(o:OA)(v:OV)(tk:List Mt):List (Nat×AV):=[(0,.ref o.ob),(1,.ref o.ok),(18,.ref o.oc),(5,.lst (tk.map zu)),(20,.int v.days),(21,.int v.scale),(22,.int v.base),(24,.int v.step)]
structure OVOk(v:OV):Prop where
 days:v.days=5\/v.days=20
 scale:1<=v.scale/\v.scale<=100000000
 base:0<=v.base/\v.base<=9942
 step:1<=v.step/\v.step<=3
structure OAt(Y:AHeap)(o:OA)(v:OV)(D:Led):Prop where
 d:Y o.od=some (.idict (zkh o v D.tick))
 b:Y o.ob=some (.list (D.es.map zz))
 k:Y o.ok=some (.list (D.fs.map zz))
 c:Y o.oc=some (.list (D.clos.map zu))
 nd:[o.ob,o.ok,o.oc].Nodup
structure St(Y:AHeap)(a:LA)(o:OA)(v:OV)(D:Led)(k:Nat):Prop where
 L:LAt Y a D
 O:OAt Y o v D
 dis:∀x∈o.all,x∉a.all
 I:Inv D
 few:D.es.length+D.fs.length<=k
 clk:D.clos.length<=k
variable{o:OA}{v:OV}{D:Led}
theorem OAt.row(h:OAt Y o v D)(s:Bool):Y (o.row s)=some (.list ((D.row s).map zz)):=by
 cases s with
 | false=>exact h.b
 | true=>exact h.k
theorem zlz(o:OA):o.od∈o.all:=fA
theorem zsg(o:OA):o.ob∈o.all:=fB _ fA
theorem zsi(o:OA):o.ok∈o.all:=fB _ (fB _ fA)
theorem zsh(o:OA):o.oc∈o.all:=fB _ (fB _ (fB _ fA))
theorem OAt.keep{Y':AHeap}(h:OAt Y o v D)(s:∀x∈o.all,∀z,Y x=some z->Y' x=some z):OAt Y' o v D:=
 ⟨s _ (zlz o) _ h.d,s _ (zsg o) _ h.b,s _ (zsi o) _ h.k,s _ (zsh o) _ h.c,h.nd⟩
theorem OAt.tick(h:OAt Y o v D)(tk:List Mt):OAt (Y.set o.od (.idict (zkh o v tk))) o v { D with tick:=tk }:=by
 have ne:∀{q:Addr} {xs:List AV},Y q=some (.list xs)->q≠o.od:=λe q=>by rw[q,h.d] at e;cases e
 exact⟨AHeap.wA ..,zx h.b (ne h.b),zx h.k (ne h.k),zx h.c (ne h.c),h.nd⟩
theorem zpx(o:OA)(v:OV)(tk tk':List Mt):jx (zkh o v tk) 5 (.lst (tk'.map zu))=zkh o v tk':=rfl
theorem OAt.add(h:OAt Y o v D)(s:Bool)(e:Ent):OAt (Y.set (o.row s) (.list (((D.row s)++[e]).map zz))) o v (D.add s e):=by
 have n:=nd3.mp h.nd;have hd:o.od≠o.row s:=λq=>by have:=h.d;rw[q,h.row s] at this;cases this
 cases s with
 | false=>exact⟨zx h.d hd,AHeap.wA ..,zx h.k (Ne.symm n.1.1),zx h.c (Ne.symm n.1.2),h.nd⟩
 | true=>exact⟨zx h.d hd,zx h.b n.1.1,AHeap.wA ..,zx h.c (Ne.symm n.2),h.nd⟩
theorem OAt.bar(h:OAt Y o v D)(m:Mt):OAt (Y.set o.oc (.list ((D.clos++[m]).map zu))) o v { D with clos:=D.clos++[m] }:=by
 have n:=nd3.mp h.nd;exact⟨zx h.d λq=>(by have:=h.d;rw[q,h.c] at this;cases this),zx h.b n.1.2,zx h.k n.2,AHeap.wA ..,h.nd⟩
theorem zlC(o:OA)(s:Bool):o.row s∈o.all:=by
 cases s
 .exact zsg o
 .exact zsi o
theorem zoh(a:LA):a.dx∈a.all:=fB _ fA
theorem zuL(a:LA):a.pc∈a.all:=gH [a.self,a.dx,a.rd,a.pb,a.pk,a.pt] fA
theorem zk8(a:LA)(s:Bool):a.row s∈a.all:=by
 cases s
 .exact gH [a.self,a.dx,a.rd] (fA (a:=a.pb) (l:=[a.pk,a.pt,a.pc]))
 .exact gH [a.self,a.dx,a.rd,a.pb] (fA (a:=a.pk) (l:=[a.pt,a.pc]))
theorem ztb{a:LA}{pt x:Addr}(h:x∈({ a with pt:=pt }:LA).all):x=pt\/x∈a.all:=
 (fT.mp (show x∈[a.self,a.dx,a.rd,a.pb,a.pk]++pt::[a.pc] from h)).elim (λh=>.inr (pB (a.pt::[a.pc]) h)) λh=>(fJ.mp h).elim .inl λh=>.inr (gH [a.self,a.dx,a.rd,a.pb,a.pk] (fB _ h))
theorem zpv(a:LA):a.pt∈a.all:=gH [a.self,a.dx,a.rd,a.pb,a.pk] (fA (a:=a.pt) (l:=[a.pc]))
theorem OAt.some(h:OAt Y o v D){x:Addr}(hx:x∈o.all):Y x≠none:=by
 refine(fM.mpr ⟨?_,fM.mpr ⟨?_,fM.mpr ⟨?_,fM.mpr ⟨?_,λ_ h=>nomatch h⟩⟩⟩⟩:∀x∈o.all,Y x≠none) x hx
 .rw[h.d];exact fP _
 .rw[h.b];exact fP _
 .rw[h.k];exact fP _
 .rw[h.c];exact fP _
theorem zjD{a:LA}(h:OAt Y o v D)(dis:∀x∈o.all,x∉a.all){pt:Addr}(hp:pt=a.pt\/Y pt=none):∀x∈o.all,x∉({ a with pt:=pt }:LA).all:=λx hx hx'=>
 (ztb hx').elim (λe=>hp.elim (λe'=>dis x hx (by rw[e,e'];exact zpv a)) λhn=>h.some hx (by rw[e];exact hn)) (dis x hx)
theorem St.mono{a:LA}{k:Nat}(h:St Y a o v D k):St Y a o v D (k+1):=⟨h.L,h.O,h.dis,h.I,pP h.few,pP h.clk⟩
theorem zg5(h:OAt Y o v D){s:Bool}(q:Q (.ref (o.row s)) Y):zcX o.od (.str s.toNat) Q Y:=by
 refine z0 h.d ?_;cases s<;>exact q
theorem zql{g:List zd}(hg:GOk g D.es.length D.fs.length):MsOk (D.able g)/\∀m∈D.able g,2<=(zf m).length:=by
 have f:∀m∈D.able g,FitM D m:=λm hm=>(zcv hg (qM hm).1).1;refine⟨⟨λm hm=>zr8 (f m hm).go,λm hm=>(zol (f m hm)).1,?_⟩,λm hm=>?_⟩
 .exact fE (pE ..) (fE (zl1 hg.few) (by decide))
 .have h:=(f m hm).go.2;unfold zf;rw[fF,fC,fC];have h1:=fCK.mpr h.1;have h2:=fCK.mpr h.2;exact fCN h1 h2
theorem zdk(G:Gd X (hK P))(hd:n<540)(h:OAt Y o v D)(ho:LOk D){g:List zd}(hg:GOk g D.es.length D.fs.length)
  (q:Q .none (Y.set o.od (.idict (zkh o v (D.pick g).tick)))):CallOk X 293 ⟨n,false⟩ [.ref o.od,.int D.span,gAV g] Q Z Y:=by
 refine zj0 G (fY hd (by decide)) λL=>?_;have htl:=ho.tl;refine z0 h.d (ze rfl ?_);refine zR (λm=>!decide (zV m∈g)) zu (λ_=>rfl) (λ_ _=>rfl) (λm hm R q=>?_) (λm hm _ R q=>q) trivial (zcR htl) ?_
 .have hgo:=ho.tick m hm;have h1:m.1.length<=3:=hgo.1.1.1;have h2:m.2.length<=3:=hgo.1.2.1;refine zaD (G.push L) (zvT hd) (zjf h1) (zjf h2) ?_;unfold zV at q;cases hmm:zf m with
  | nil=>exact absurd hmm (qP hgo)
  | cons x t=>
   rw[hmm] at q;exact inM (.inl rfl) q
 refine zqm (G.push L) (zvS hd) ⟨h.d,rfl,rfl,rfl,h.b,h.k,h.c⟩ ho hg ?_;have hm:=zql hg;refine zfj (G.push L) (zvR hd) hg.nodup hg.few hm.1 hm.2 ?_;have hpl:=zg8 (D.able g) g;have hfl:=pE (λm=>!decide (zV m∈g)) D.tick;have hgf:=hg.few;refine zD (by rw[fC,fC];exact zxa htl hpl hfl hgf) ?_;rw[<-fR];refine zhb h.d (show 8<100 by decide) ?_;exact Ends.same q
end
section
variable{P:Hl}{X:Cx}{n:Nat}{Q:zl}{Z:XP}{Y:AHeap}{o:OA}{v:OV}{D:Led}
theorem zxM{m m':Mt}{R:Bool->AHeap->Prop}(q:R (decide (m=m')) Y):eqG (zu m) (zu m') R Y:=
 zcf (zaF m) (zaF m') (by decide) (λh=>by rw[H0 (ziA h)] at q;exact q) λh=>by rw[Hz λe=>h (congrArg zu e)] at q;exact q
theorem zqI(D:Led):D.grps.Nodup:=(zfG D).imp_of_mem λ{g g'} hg _ h e=>by
 refine z8 (fAJ g (zow hg)) λy hy=>?_;exact h y hy (e▸hy)
theorem zmn{D:Led}(I:Inv D)(m:Mt):D.tick.erase m=D.tick.filter λx=>!decide (x=m):=by
 rw[List.Nodup.erase_eq_filter (ze2 I)];refine List.filter_congr λx _=>congrArg Bool.not ?_
 by_cases h:x=m
 .rw[H0 h,beq_iff_eq.mpr h]
 .rw[Hz h,beq_eq_false_iff_ne.mpr h]
def zo2(X:Cx):AS:=(Gc (A.vH (Gc (Gh 10 (G0 X 245 none 197 (Ga 0) [(Ga 7),(Gf (Ga 9) (Gb (.int 0))),(Gf (Ga 9) (Gb (.int 1)))])) Ge) [94] none (Gc A.vG Ge)) (Gc (Gu (Gw zQ (Gf (Ga 1) (Ga 7)) [(Ga 9)])) (Gc (Gv (Gm (Gk X 261 [(Ga 1),(Ga 3)])) (.one 6) (zc2 X)) Ge)))
noncomputable def dtL(a:LA)(o:OA)(sp:Int)(s:Bool)(e:Ent)(pl:Nat)(x2 x4 x5 x6 x8:Option AV):Loc:=[some (.ref a.self),some (.ref o.od),x2,some (.int sp),x4,x5,x6,some (.str s.toNat),x8,some (.tup [.int e.1,.int e.2]),some (.int pl)]
structure DtJ(a:LA)(o:OA)(v:OV)(E:Led)(g:List zd)(s:Bool)(e:Ent)(pl:Nat)(xs:List (List zd))(Y':AHeap)(B:Led):Prop where
 b:B=E/\g∈xs\/B=E.pick g/\g∉xs
 O:OAt Y' o v B
 L:LAt Y' a (E.pick g)
 nd:xs.Nodup
 sub:∀g'∈xs,g'∈E.grps
def DtI(a:LA)(o:OA)(v:OV)(E:Led)(g:List zd)(s:Bool)(e:Ent)(pl:Nat)(xs:List (List zd))(_:Unit)(l:Loc)(Y':AHeap):Prop:=∃B x2 x4 x5 x6 x8,l=dtL a o E.span s e pl x2 x4 x5 x6 x8/\DtJ a o v E g s e pl xs Y' B
theorem zqx{L:Env}(G:Gd (X.push L) (hK P))(hd:n<480){a:LA}{E:Led}{g g':List zd}{s:Bool}{e:Ent}{pl:Nat}(dis:∀x∈o.all,x∉a.all)(ho:LOk E)(hgo:GOk g E.es.length E.fs.length)(hgm:g∈E.grps)(hgx:(s,(pl:Int))∈g){xs:List (List zd)}{l:Loc}{I:AHeap->Prop}{K:Loc->AHeap->Prop}{S_:zT}(hI:∀Y,I Y)(hR:DtI a o v E g s e pl (g'::xs) () l Y)(hK:∀l' Y',DtI a o v E g s e pl xs () l' Y'->K l' Y') :
  ∃l',jL (.one 6) (gAV g') l=some l'/\zc2 (X.push L) ⟨n+1,false⟩ l' (Gy I K S_) Gx Y:=by
 obtain⟨B,x2,x4,x5,x6,x8,el,J⟩:=hR;subst el;refine zc _ rfl ?_;have hg':=J.sub g' fA;have hnd:=fQ.mp J.nd;have hx':∀g2∈xs,g2∈E.grps:=λg2 h2=>J.sub g2 (fB _ h2);refine inM (m:=(s,(pl:Int))) (.inl rfl) ?_
 by_cases hm:(s,(pl:Int))∈g'
 .rw[H0 hm];have egg:g'=g:=zcm hg' hgm hm hgx;have hBE:B=E:=J.b.elim (λh=>h.1) λh=>absurd (by rw[egg];exact fA) h.2;have hO:=J.O;rw[hBE] at hO;rw[egg] at hnd ⊢;refine zdk G (fY (gZ hd) (by decide)) hO ho hgo ?_;exact⟨hI _,hK _ _ ⟨_,_,_,_,_,_,rfl,.inr ⟨rfl,hnd.1⟩,hO.tick (E.pick g).tick,J.L.other (dis _ (zlz o)),hnd.2,hx'⟩⟩
 .rw[Hz hm];have hne:g≠g':=λh=>hm (h▸hgx);exact⟨hI _,hK _ _ ⟨B,_,_,_,_,_,rfl,J.b.imp (λh=>⟨h.1,(fJ.mp h.2).resolve_left hne⟩) (λh=>⟨h.1,λq=>h.2 (fB _ q)⟩),J.O,J.L,hnd.2,hx'⟩⟩
theorem zfB{L:Env}(G:Gd (X.push L) (hK P))(hd:n<480){a:LA}{k:Nat}(S:St Y a o v D k)(hk:k<=50){s:Bool}{e:Ent}(he:k7 e.1 e.2=true){x2 x4 x5 x6 x8 x10:Option AV}{Sp:zT}{SZ:Addr->Loc->AHeap->Prop}
  (q:∀Y' pt D' f l,St Y' { a with pt:=pt } o v D' (k+1)->D'.span=D.span->(f = .next\/f = .ret .none)->Sp f l Y') :
  zo2 (X.push L) ⟨n+1,false⟩ [some (.ref a.self),some (.ref o.od),x2,some (.int D.span),x4,x5,x6,some (.str s.toNat),x8,some (.tup [.int e.1,.int e.2]),x10] Sp SZ Y:=by
 have I:=S.I;have hrl:(D.row s).length<80:=by have:=S.few;cases s<;>(first|(show D.es.length<80;exact zEY hk this)|(show D.fs.length<80;exact zEZ hk this))
 have ho1:=zgS I.ok he hrl;refine zm (zbR (D.add s e) (m:=(s,((D.row s).length:Int))) (k:=(D.row s).length) rfl (by show _<((D.add s e).row s).length;rw[zgh,fF,fV];exact zqc)) λg gs hg hgm hgx=>?_;refine zn S.L.s S.L.d ?_;refine zpw G (zEC hd) S.L I.ok he hrl hg (λh8 Y1 pt fr hp hL=>?_) λh9=>?_
 .have I1:=zlF I ho1 hgm hgx h8 (by have:=zjP I;have:=S.few;exact zE5 hk (by assumption) this);have hO1:=S.O.keep (Y':=Y1) λx hx z e=>fr x z (λh=>S.dis x hx (h▸zoh a)) (λh=>S.dis x hx (h▸zk8 a s)) e;have dis1:=zjD S.O S.dis (pt:=pt) (.inr hp);refine zg5 hO1 ?_;refine zk (hO1.row s) ?_;refine zk (hO1.row s) ?_;refine zD (by rw[fC];exact ztE hrl) ?_;have hO2:=hO1.add s e;rw[fR] at hO2;have hL2:LAt (Y1.set (o.row s) (.list ((D.row s).map zz++[e].map zz))) { a with pt:=pt } ((D.add s e).pick g):=hL.other (dis1 _ (zlC o s));have eE:(D.row s).map zz++[.tup [.int e.1,.int e.2]]=(D.row s).map zz++[e].map zz:=rfl;rw[eE];unfold G6;generalize Y1.set (o.row s) (.list ((D.row s).map zz++[e].map zz))=Y2 at hO2 hL2 ⊢;refine kQ G (zED hd) hO2.d rfl rfl hO2.b hO2.k ho1.es ho1.fs ?_;have hlen:=zk7 D s e;have hsp:=kl D s e;have hfew:(D.add s e).es.length+(D.add s e).fs.length<=k+1:=by have:=S.few;exact zxA hlen this
  have hclk:(D.add s e).clos.length<=k+1:=by rw[zd0];have:=S.clk;exact zEM this
  rw[<-hsp];generalize D.add s e=E at hsp hfew hclk ho1 hg hgm hL hO2 hL2 I1 ⊢;clear hL hlen;have hgo:=zcl hgm h8 ho1.few;refine zw (g:=gAV) (DtI { a with pt:=pt } o v E g s e (D.row s).length) (λ_ _=>()) (λg' xs _ l Y' K S_ hR hK=>zqx G hd dis1 ho1 hgo hgm hgx (λ_=>trivial) hR hK) (b:=()) (λl Y' hR=>?_) ⟨E,_,_,_,_,_,rfl,.inl ⟨rfl,hgm⟩,hO2,hL2,zqI E,λg' hg'=>hg'⟩;obtain⟨B,x2,x4,x5,x6,x8,el,J⟩:=hR;have hB:B=E.pick g:=J.b.elim (λh=>nomatch h.2) λh=>h.1;exact q Y' pt _ .next _ ⟨J.L,hB▸J.O,dis1,I1,hfew,hclk⟩ hsp (.inl rfl)
 .exact q Y a.pt D (.ret .none) _ S.mono rfl (.inr rfl)
theorem zyj{x s:Int}(h:x≠0/\-7<=x/\x<=7)(h1:1<=s)(h2:s<=100000000):x*s≠0/\-700000000<=x*s/\x*s<=700000000:=by
 have h0:(0:Int)<=s:=fAY (by decide) h1;refine⟨Int.mul_ne_zero h.1 λe=>by rw[e] at h1;exact absurd h1 (by decide),fAY ?_ (fCC h.2.1 h0),fAY (fCC h.2.2 h0) ?_⟩
 .rw[Int.neg_mul];exact Int.neg_le_neg (fCF (c:=7) h2 (by decide))
 .exact fCF (c:=7) h2 (by decide)
theorem at8(c:Int):∃x:Int,jK [AV.int 1,.int 2,.int 3,.int 4,.int 5,.int 7,.int (-2),.int (-3)] (c.fmod 8)=some (.int x)/\∀s:Int,1<=s->s<=100000000->x*s≠0/\-700000000<=x*s/\x*s<=700000000:=by
 refine zb (zcT (c:=c) (xs:=([1,2,3,4,5,7,-2,-3]:List Int).map AV.int) 8 rfl (by decide)) λv hv e=>?_;refine zb (fO.mp hv) λx hx ex=>?_;subst ex;exact zc x e λs h1 h2=>zyj ((by decide:∀x∈([1,2,3,4,5,7,-2,-3]:List Int),x≠0/\-7<=x/\x<=7) x hx) h1 h2
theorem zan{i j:Int}(h1 : -1000000000<=j)(h2:j<=1000000000):(small j.natAbs||small i.natAbs)=true:=by
 have h:j.natAbs<=1000000000:=by lia
 unfold small;rw[show Nat.blt j.natAbs 1152921504606846976=true from fA1 (Nat.lt_of_le_of_lt h (by decide))];rfl
theorem zgE{d c:Int}(h1:0<=d/\d<=9999)(h2:c≠0)(h3 : -1000000000<=c)(h4:c<=1000000000):k7 d c=true:=by
 unfold k7;rw[H0 h1.1,H0 h1.2,H0 (y11 h3:0-1000000000<=c),H0 h4,Hz h2];rfl
theorem zkf{x:Int}(h1 : -700000000<=x)(h2:x<=700000000):(x.natAbs:Int)<=700000000:=by lia
theorem zqw(G:Gd X (hK P))(hd:n<470){a:LA}{k:Nat}(S:St Y a o v D k)(hv:OVOk v)(hk:k<=50){c:Int}
  (q:∀Y' pt D',St Y' { a with pt:=pt } o v D' (k+1)->D'.span=D.span->Q .none Y'):CallOk X 298 ⟨n,false⟩ [.ref a.self,.ref o.od,.int c,.int D.span] Q Z Y:=by
 refine zsU G (znL hd) λL=>?_;have I:=S.I;have hsm:∀x∈D.tick,SmM x:=λx hx=>(I.fits x hx).go.1;refine z0 S.O.d (ze rfl ?_);refine zda (λq=>zlI (G.push L) (zst hd) q) (zrY hd) hsm ?_;refine qe (λh6=>?_) λh6=>?_
 .refine zgz (k:=2) (λx hx=>by obtain⟨m,_,rfl⟩:=fO.mp hx;exact zaF m) (by decide) ?_;rw[fC5];have hp:=zX num D.tick;generalize srt num D.tick=T at hp ⊢;cases T with
  | nil=>
   refine zb8 (Hz (by rw[H1 h6];decide)) ?_;refine zb8 (Hz (by rw[H1 h6];decide)) ?_;exact Ends.same (q Y a.pt D S.mono rfl)
  | cons m0 t0=>
   have hlen:((m0::t0).map zu).length=t0.length+1:=by rw[fC,fH]
   conv=>whnf
   refine jd (b:=zcw (((m0::t0).map zu).length:Int)) (by unfold zcw;rw[hlen,Hz zxt];rfl) ?_;obtain⟨w,hw,ew⟩:=zcT (c:=c.fdiv 8) (xs:=(m0::t0).map zu) _ rfl (by rw[hlen];exact zt7);obtain⟨m,hm,rfl⟩:=fO.mp hw;have hm:m∈D.tick:=hp.mem_iff.mp hm;refine ze ew ?_;refine z0 S.O.d (ze rfl ?_);refine zk S.O.c ?_;refine zk S.O.c ?_;have hcl:=S.clk;refine zD (by rw[fC];exact zEN hk hcl) ?_;have hO1:=S.O.bar m;have hL1:=S.L.other (o:=.list ((D.clos++[m]).map zu)) (S.dis o.oc (zsh o));have e1:D.clos.map zu++[zu m]=(D.clos++[m]).map zu:=by rw[fR];rfl
   rw[e1];unfold G6;generalize Y.set o.oc (.list ((D.clos++[m]).map zu))=Y1 at hO1 hL1 ⊢;refine z0 hO1.d (ze rfl ?_);refine zR (λx=>!decide (x=m)) zu (λ_=>rfl) (λ_ _=>rfl) (λx hx R q=>zxM q) (λx hx _ R q=>q) trivial (zcR I.ok.tl) ?_;refine zhb hO1.d (show 8<100 by decide) ?_;rw[zpx,<-zmn I];have hO2:OAt _ o v (D.take m):=hO1.tick (D.tick.erase m);have hL2:=hL1.other (o:=.idict (zkh o v (D.tick.erase m))) (S.dis o.od (zlz o));generalize Y1.set o.od (.idict (zkh o v (D.tick.erase m)))=Y2 at hO2 hL2 ⊢;refine zn hL2.s hL2.d ?_;refine zhp (G.push L) (zEB hd) hL2 I.ok hm λY3 fr hL3=>?_;refine Ends.same (q Y3 a.pt (D.take m) ⟨hL3,hO2.keep (λy hy z e=>fr y z (λh=>S.dis y hy (h▸zpv a)) (λh=>S.dis y hy (h▸zuL a)) e),S.dis,zpZ I hm (zEO hk hcl),pP S.few,?_⟩ rfl);show (D.clos++[m]).length<=k+1;rw[fF,fV];exact zEL hcl
 .refine qe (λh7=>?_) λh7=>?_
  .refine kQ (G.push L) (zrY hd) S.O.d rfl rfl S.O.b S.O.k I.ok.es I.ok.fs ?_;refine zw (g:=gAV) (λxs b l Y'=>(OAt Y' o v b/\LAt Y' a D)/\Inv b/\(b.es=D.es/\b.fs=D.fs/\b.span=D.span)/\(∀g∈xs,g∈D.grps)/\∃u,l=[some (.ref a.self),some (.ref o.od),some (.int c),some (.int D.span),some (.lst ((srt num D.tick).map zu)),none,u,none,none,none,none]) Led.pick ?_ (b:=D) ?_ ⟨⟨S.O,S.L⟩,I,⟨rfl,rfl,rfl⟩,λg hg=>hg,_,rfl⟩
   .intro g xs b l Y' K S_ hR hK;obtain⟨⟨hO,hL⟩,Ib,⟨e1,e2,e3⟩,hx,u,rfl⟩:=hR;refine zc _ rfl ?_;have hgb:g∈b.grps:=by unfold Led.grps;rw[e1,e2,e3];exact hx g fA
    have h8:=Ib.few g hgb;have hfew:=Ib.ok.few;rw[<-e3] at hK ⊢;refine zdk (G.push L) (zva hd) hO Ib.ok (zcl hgb h8 Ib.ok.few) ?_;have Ib2:=zeK Ib.ok Ib.lo Ib.hi Ib.few Ib.whole Ib.apart Ib.fits Ib.free hgb (by have:=zjP Ib;exact zxx hfew this);exact⟨trivial,hK _ _ ⟨⟨hO.tick (b.pick g).tick,hL.other (S.dis _ (zlz o))⟩,Ib2,⟨e1,e2,rfl⟩,λg hg=>hx g (fB _ hg),_,rfl⟩⟩
   .intro l Y' hR;obtain⟨⟨hO,hL⟩,Ib,_,_,u,rfl⟩:=hR;have hO:OAt Y' o v D.again:=zd1 I▸hO;refine zn hL.s hL.d ?_;refine znS (G.push L) (zEA hd) hL I λY3 pt fr hpt hL3=>?_;exact Ends.same (q Y3 pt D.again ⟨hL3,hO.keep (λy hy z e=>fr y z (λh=>S.dis y hy (h▸zoh _)) e),zjD hO S.dis hpt,zl4 I,pP S.few,pP S.clk⟩ rfl)
  .refine qe (λh8=>?_) λh8=>?_
   .obtain⟨s,es⟩:=zk9 (c.fdiv 8);refine ze es ?_;refine z0 S.O.d (ze rfl ?_);refine z0 S.O.d (ze rfl ?_);have hd0:=hv.days;have hdp:0<v.days:=zEq hd0;refine jd (by unfold zcw;rw[Hz (y14 hdp)];rfl) ?_;refine z0 S.O.d (ze rfl ?_);have b1:=gV (c.fdiv 16) hdp;have b2:=pJ (c.fdiv 16) hdp;have b3:=hv.step;have b4:=hv.base;have b5:=hv.scale;refine jd (zan (zFa b3) (zFb b3)) ?_;generalize (c.fdiv 16).fmod v.days=x at b1 b2 ⊢;have hday:0<=v.base+x*v.step/\v.base+x*v.step<=9999:=by
     have hst:v.step=1\/v.step=2\/v.step=3:=zEp b3
     rcases hst with h|h|h<;>rw[h,Int.mul_comm]<;>(first|exact zFf hd0 b4 b1 b2|exact zFg hd0 b4 b1 b2|exact zFh hd0 b4 b1 b2)
    obtain⟨y,ey,hy⟩:=at8 (c.fdiv 320);refine ze ey ?_;refine z0 S.O.d (ze rfl ?_);refine jd (zan (zE8 b5) (zE9 b5)) ?_;obtain⟨y1,y2,y3⟩:=hy v.scale b5.1 b5.2;have at2:∃z:Int,jK [AV.int 1,.int (-1)] (if decide (y*v.scale<0)=true then 1 else 0)=some (.int z)/\(z=1\/z = -1):=by
     cases decide (y*v.scale<0)
     .exact zc 1 rfl (.inl rfl)
     .exact zc (-1) rfl (.inr rfl)
    obtain⟨z,ez,hz⟩:=at2;refine qe (λh1=>?_) λh1=>?_
    .refine ze ez ?_;refine jd (zan (zFc hz) (zFd hz)) ?_;have hc:k7 (v.base+x*v.step) ((10 ^ Int.toNat 9-((y*v.scale).natAbs:Int))*z)=true:=by
      have e9:(10:Int) ^ Int.toNat 9=1000000000:=by decide
      rw[e9];have ha:((y*v.scale).natAbs:Int)<=700000000:=zkf y2 y3;generalize (y*v.scale).natAbs=a at ha ⊢
      rcases hz with rfl|rfl
      .rw[Int.mul_one];exact zgE hday (zFi ha) (zFl ha) zFn
      .rw[Int.mul_neg,Int.mul_one];exact zgE hday (zFj ha) zFo (zFk ha)
     refine zfB (n:=n) (s:=s) (e:=(v.base+x*v.step,(10 ^ Int.toNat 9-((y*v.scale).natAbs:Int))*z)) (G.push L) (zxs hd) S hk hc λY' pt D' f l hS hsp hf=>?_
     rcases hf with rfl|rfl<;>exact Ends.same (q Y' pt D' hS hsp)
    .refine zfB (n:=n) (s:=s) (e:=(v.base+x*v.step,y*v.scale)) (G.push L) (zxs hd) S hk (zgE hday y1 (fAY (by decide) y2) (fAY y3 (by decide))) λY' pt D' f l hS hsp hf=>?_
     rcases hf with rfl|rfl<;>exact Ends.same (q Y' pt D' hS hsp)
   .exact Ends.same (q Y a.pt D S.mono rfl)
end
section
variable{P:Hl}{X:Cx}{n:Nat}{Q:zl}{Z:XP}{Y:AHeap}{o:OA}{v:OV}{D:Led}
theorem zg6{α:Type}{f:α->Int}{span:Int}{ts:List α}(h:ts.Pairwise λa b=>f a+span<f b):z7 f span ts=ts.map λt=>[t]:=by
 induction ts with
 | nil=>rfl
 | cons t ts ih=>
  have h:=gE.mp h;show zbf (gap f span t ts) t (z7 f span ts)=_;rw[ih h.2];cases ts with
  | nil=>rfl
  | cons u us=>
   have e:gap f span t (u::us)=true:=H0 (h.1 u fA);rw[e];rfl
noncomputable def kB(f:Int)(j:Nat):Ent:=(f+40*j,1+j)
structure Lead(D:Led)(s:Bool)(f:Int)(j:Nat):Prop where
 row:D.row s=(List.range j).map (kB f)
 no:D.row (!s)=[]
 tick:D.tick=[]
 clos:D.clos=[]
theorem zij{s:Bool}{f:Int}{j:Nat}(I:LOk D)(h:Lead D s f j){t:Tr}(ht:t∈inO D.es D.fs):∃k:Nat,t=(f+40*k,(s,(k:Int))):=by
 refine zh (jJ I.es I.fs (inO_mem.mp ht)).2 λk e1 hk e2=>?_;have hk:k<(D.row t.2.1).length:=hk;have e2:((D.row t.2.1).getD k (0,0)).1=t.1:=e2;have hs:t.2.1=s:=by
  refine Classical.byContradiction λhn=>?_;have:t.2.1 = !s:=by cases s<;>cases ht:t.2.1<;>first|rfl|exact absurd ht hn
  rw[this,h.no] at hk;exact absurd hk (fBT _)
 rw[hs,h.row] at hk e2;rw[fC,gN] at hk;rw[fS,pZ,List.getElem?_range hk] at e2;refine⟨k,?_⟩;have e3:t.2=(s,(k:Int)):=Prod.ext hs e1;exact Prod.ext e2.symm e3
theorem zmL{s:Bool}{f:Int}{j:Nat}(I:LOk D)(hi:D.span<=30)(h:Lead D s f j){g:List zd}(hg:g∈D.grps):g.length<=8:=by
 unfold Led.grps at hg;rw[ku,zg6] at hg
 .refine zb (fO.mp hg) λG hG e=>?_;refine zb (fO.mp hG) λt _ e'=>?_;rw[<-e,<-e'];exact gQ rfl
 .refine List.Pairwise.imp_of_mem ?_ ((zef I.es I.fs).and (zoB D.es D.fs));intro a b ha hb hab;refine z8 (zij I h ha) λk e=>z8 (zij I h hb) λl e'=>?_;have h1:a.1<=b.1:=hab.1;have h2:k≠l:=λe2=>hab.2 (by rw[e,e',e2]);rw[e,e'] at h1 ⊢;have h1:f+40*(k:Int)<=f+40*(l:Int):=h1;show f+40*(k:Int)+D.span<f+40*(l:Int)
  lia
theorem zq1{s:Bool}{f:Int}{j:Nat}(I:LOk D)(h:Lead D s f j){g:List zd}(hg:g∈D.grps)(h8:g.length<=8):pk (D.able g) g=[]:=by
 refine List.eq_nil_iff_forall_not_mem.mpr λm hm=>?_;have hw:=zcv (zgF I hg h8) (qM (zpt hm)).1;have go:=hw.1.go.2;have no:∀p,(!s,p)∈zf m->False:=λp hp=>by
  have:=(zfF hg (hw.2 _ hp))
  have h2:p<((D.row (!s)).length:Int):=this.2;rw[h.no] at h2;exact absurd (fA0 this.1 h2) (fBS _)
 cases s with
 | false=>exact z8 (fAJ _ go.2) λp hp=>no p (mem_marks.mpr (.inr ⟨rfl,hp⟩))
 | true=>exact z8 (fAJ _ go.1) λp hp=>no p (mem_marks.mpr (.inl ⟨rfl,hp⟩))
theorem zl3(D:Led)(s:Bool)(e:Ent):(D.add s e).row (!s)=D.row (!s):=by cases s<;>rfl
theorem zoQ{s:Bool}{f:Int}{j:Nat}(h:Lead D s f j):Lead (D.add s (kB f j)) s f (j+1):=
 ⟨by rw[zgh,h.row,fDD,fR];rfl,by rw[zl3];exact h.no,by rw[kX];exact h.tick,by rw[zd0];exact h.clos⟩
theorem zmM{s:Bool}{f:Int}{j:Nat}(I:LOk D)(h:Lead D s f j){g:List zd}(hg:g∈D.grps)(h8:g.length<=8):Lead (D.pick g) s f j:=by
 refine⟨h.row,h.no,?_,h.clos⟩;show (D.tick.filter _)++pk (D.able g) g=[]
 rw[zq1 I h hg h8,h.tick];rfl
theorem zmK{f:Int}{j:Nat}(h:f=5000\/f=0)(hj:j<=13):k7 (kB f j).1 (kB f j).2=true:=by
 unfold k7 kB;have h1:0<=f+40*(j:Int)/\f+40*(j:Int)<=9999:=by rcases h with h|h<;>(first|exact zu7 hj h|exact zu6 hj h)
 have h2:0-1000000000<=1+(j:Int)/\1+(j:Int)<=1000000000/\1+(j:Int)≠0:=zvc hj;rw[H0 h1.1,H0 h1.2,H0 h2.1,H0 h2.2.1,Hz h2.2.2];rfl
theorem zq0(G:Gd X (hK P))(hd:n<470){a:LA}(S:St Y a o v D 0)(h0:D.tick=[]/\D.clos=[])(hv:OVOk v){c:Int}
  (q:∀Y' pt D',St Y' { a with pt:=pt } o v D' 13->D'.span=D.span->Q .none Y'):CallOk X 305 ⟨n,false⟩ [.ref a.self,.ref o.od,.int c] Q Z Y:=by
 refine zsX G (znL hd) λL=>?_;refine z0 S.O.d (ze rfl ?_);have at2:∃f:Int,jK [AV.int 5000,.int 0] (if decide (v.base>2000)=true then 1 else 0)=some (.int f)/\(f=5000\/f=0):=by
  cases decide (v.base>2000)
  .exact zc 5000 rfl (.inl rfl)
  .exact zc 0 rfl (.inr rfl)
 refine zb at2 λf ef hf=>?_;refine ze ef ?_;refine z8 (zk9 (c.fdiv 4)) λs es=>?_;refine ze es ?_;have hN:∃N:Nat,jK [AV.int 0,.int 0,.int 0,.int (9+(c.fdiv 8).fmod 5)] (c.fmod 4)=some (.int (N:Nat))/\N<=13:=by
  have b1:=gV (c.fdiv 8) (show (0:Int)<5 by decide);have b2:=pJ (c.fdiv 8) (show (0:Int)<5 by decide);refine zb (zcT (c:=c) (xs:=[AV.int 0,.int 0,.int 0,.int (9+(c.fdiv 8).fmod 5)]) 4 rfl (by decide)) λw hw ew=>?_;generalize (c.fdiv 8).fmod 5=y at b1 b2 hw ew ⊢;have h:w = .int 0\/w = .int (9+y):=by
   rcases fJ.mp hw with e|hw
   .exact .inl e
   .rcases fJ.mp hw with e|hw
    .exact .inl e
    .rcases fJ.mp hw with e|hw
     .exact .inl e
     .exact .inr (fG.mp hw)
  rcases h with e|e
  .exact⟨0,by rw[ew,e];rfl,by decide⟩
  .refine⟨(9+y).toNat,?_,zu5 b2⟩;rw[ew,e,fAV (zu4 b1)]
 refine zb hN λN eN hN=>?_;refine ze eN ?_;refine zcA (zve hN) ?_;refine zw (g:=λi:Nat=>AV.int i) (λxs (j:Nat) l Y'=>(∃pt E,St Y' { a with pt:=pt } o v E j/\Lead E s f j/\E.span=D.span)/\xs=List.range' j xs.length/\j+xs.length=N/\∃u,l=[some (.ref a.self),some (.ref o.od),some (.int c),some (.int f),some (.str s.toNat),u]) (λj _=>j+1) ?_ (b:=0) ?_ ⟨⟨a.pt,D,S,?_,rfl⟩,?_,?_,_,rfl⟩
 .intro i xs j l Y' K S_ hR hK;obtain⟨⟨pt,E,SE,hL,hsp⟩,hxs,hl,u,rfl⟩:=hR;obtain⟨ei,m,em,ex⟩:=ziN hxs;subst ei;rw[fH] at hl em;have em:xs.length=m:=Nat.succ.inj em;have I:=SE.I;have hlen:(E.row s).length=i:=by rw[hL.row,fC,gN]
  have hi:i<=13:=zvt hN hl;have hrl:(E.row s).length<80:=zvw hN hl hlen;have he:=zmK hf hi;have ho1:=zgS I.ok he hrl;have hL1:=zoQ hL;have hs1:=kl E s (kB f i);refine zm (zbR (E.add s (kB f i)) (m:=(s,((E.row s).length:Int))) (k:=(E.row s).length) rfl (by show _<((E.add s (kB f i)).row s).length;rw[zgh,fF,fV];exact zqc)) λg gs hg hgm hgx=>?_;have h8:=zmL ho1 (by rw[hs1];exact I.hi) hL1 hgm;have hmul:(small ((i:Nat):Int).natAbs||small (40:Int).natAbs)=true:=zan zsu (zvs hN hl);refine zc _ rfl ?_;refine zn SE.L.s SE.L.d ?_;refine jd rfl ?_;refine jd hmul ?_;refine zpw (a:={ a with pt:=pt }) (e:=kB f i) (G.push L) (fY (gZ hd) (by decide)) SE.L I.ok he hrl hg (λ_ Y1 pt1 fr hp hLA=>?_) λh9=>absurd h8 (fDG.mpr h9);have I1:=zlF I ho1 hgm hgx h8 (by rw[hL.tick];exact fX _);have hO1:=SE.O.keep (Y':=Y1) λx hx z e=>fr x z (λh=>SE.dis x hx (h▸zoh _)) (λh=>SE.dis x hx (h▸zk8 _ s)) e;have dis1:=zjD SE.O SE.dis (pt:=pt1) (.inr hp);refine zg5 hO1 ?_;refine zk (hO1.row s) ?_;refine jd hmul ?_;refine zk (hO1.row s) ?_;refine zD (by rw[fC];exact ztE hrl) ?_;have hO2:=hO1.add s (kB f i);rw[fR] at hO2;have hL2:LAt (Y1.set (o.row s) (.list ((E.row s).map zz++[kB f i].map zz))) { a with pt:=pt1 } ((E.add s (kB f i)).pick g):=hLA.other (dis1 _ (zlC o s));have hL3:=zmM ho1 hL1 hgm h8;refine⟨trivial,hK _ _ ⟨⟨pt1,_,⟨hL2,⟨?_,hO2.b,hO2.k,hO2.c,hO2.nd⟩,dis1,I1,?_,?_⟩,hL3,hs1.trans hsp⟩,by rw[em];exact ex,zvq hl,_,rfl⟩⟩
  .rw[hL3.tick,<-hL1.tick];exact hO2.d
  .have:=zk7 E s (kB f i);have:=SE.few;show (E.add s (kB f i)).es.length+(E.add s (kB f i)).fs.length<=i+1;exact zxA (by assumption) this
  .rw[hL3.clos];exact fX _
 .intro l Y' hR;obtain⟨⟨pt,E,SE,hL,hsp⟩,_,hl,u,rfl⟩:=hR;have hl:List.foldl (λj x=>j+1) 0 (List.range N)=N:=hl;rw[hl] at SE;exact Ends.same (q Y' pt E ⟨SE.L,SE.O,SE.dis,SE.I,fE SE.few hN,fE SE.clk hN⟩ hsp)
 .have:=S.few;have h1:D.es=[]:=fAR (zvk this);have h2:D.fs=[]:=fAR (zvl this);exact⟨by cases s<;>first|exact h1|exact h2,by cases s<;>first|exact h1|exact h2,h0.1,h0.2⟩
 .rw[gN,List.range_eq_range']
 .rw[gN,fBD]
end
section
variable{P:Hl}{X:Cx}{n:Nat}{Q:zl}{Z:XP}{Y:AHeap}{o:OA}{v:OV}{D:Led}
theorem zl5(G:Gd X (hK P))(hd:n<560){a:LA}{D:Led}(h:LAt Y a D)(q:Q (.lst (D.clos.map zu)) Y):CallOk X 218 ⟨n,false⟩ [.ref a.self] Q Z Y:=by
 refine zoL G (fY hd (by decide)) λL=>?_;refine zn h.s h.d ?_
 conv=>whnf
 exact ze (zA h.c) (Ends.same q)
theorem zeD(ms:List Mt):∀x∈ms.map zu,Flat 2 x:=λx hx=>by refine zb (fO.mp hx) λm _ e=>?_;rw[<-e];exact zaF m
theorem zjG{k:Nat}{xs:List AV}(hf:∀x∈xs,Flat k x)(hk:k<100){R:Bool->AHeap->Prop}(q:R true Y):eqG (.lst xs) (.lst xs) R Y:=zcf (.lst hf) (.lst hf) hk (λ_=>q) λh=>absurd rfl h
theorem zsL{p:Addr}{ms:List Mt}(h:Y p=some (.list (ms.map zu))){R:Bool->AHeap->Prop}(q:R true Y):eqG (.lst (ms.map zu)) (.ref p) R Y:=by
 refine zb (zeM (Y:=Y) (k:=2) λy hy=>(zeD ms y hy).rd) λds r1 l1=>?_;have hf:Flat 3 (.lst (ms.map zu)):=.lst (zeD ms);have e:=(hf.eqv hf (.list ds) (.list ds) (.lst r1) (.lst r1)).mpr rfl;unfold eqG;exact zq (.list ds) (.list ds) (.lst r1) (.list h r1) (by simp only[PyData.depth];exact zvf l1) (by rw[e];exact q)
noncomputable def ziP(s:Bool)(m:Mt):List Int:=if s then m.2 else m.1
noncomputable def Led.took(D:Led)(s:Bool):List Int:=D.tick.flatMap (ziP s)
theorem znE(D:Led)(s:Bool)(i:Int):i∈D.took s↔(s,i)∈D.told:=by
 unfold Led.took Led.told;rw[gL,gL];refine exists_congr λm=>and_congr_right λ_=>?_;rw[mem_marks];cases s with
 | false=>exact⟨λh=>.inl ⟨rfl,h⟩,λh=>h.elim (λh=>h.2) λh=>nomatch h.1⟩
 | true=>exact⟨λh=>.inr ⟨rfl,h⟩,λh=>h.elim (λh=>nomatch h.1) λh=>h.2⟩
theorem inI{i:Int}{xs:List Int}{p:Addr}{R:Bool->AHeap->Prop}(hp:Y p=some (.list (xs.map .int)))(q:R (decide (i∈xs)) Y):inR (.int i) p R Y:=by
 have e:AV.int i∈xs.map .int↔i∈xs:=⟨λh=>zb (fO.mp h) λj hj e=>znX e▸hj,λh=>gS h⟩
 refine zh3 (k:=0) hp (.int i) (λy hy=>?_) (by decide) (λh=>?_) λh=>?_
 .refine zb (fO.mp hy) λx _ e=>?_;rw[<-e];exact .int x
 .rw[H0 (e.mp h)] at q;exact q
 .rw[Hz λh'=>h (e.mpr h')] at q;exact q
theorem zih(G:Gd X (hK P))(hd:n<560)(h:OAt Y o v D)(ho:LOk D){s:Bool}(q:Q (.lst ((D.left s).map λi:Nat=>.int i)) Y):CallOk X 317 ⟨n,false⟩ [.ref o.od,.str s.toNat] Q Z Y:=by
 refine zjZ G (fY hd (by decide)) λL=>?_;have htl:=ho.tl;intro p hp;refine z0 (jc h.d hp) (ze rfl ?_);refine zw (g:=zu) (λxs b l Y'=>(Sub Y Y'/\Y' p=some (.list (b.map .int)))/\(∃u,l=[some (.ref o.od),some (.str s.toNat),some (.ref p),u])/\b.length+3*xs.length<=3000/\∀m∈xs,m∈D.tick) (λb m=>b++ziP s m) ?_ (b:=[]) ?_ ⟨⟨zL hp,AHeap.wA ..⟩,⟨_,rfl⟩,by rw[gU];exact zvb htl,λm hm=>hm⟩
 .intro m xs b l Y' K S_ hR hK;obtain⟨⟨hs,hb⟩,⟨u,rfl⟩,hl,hx⟩:=hR;rw[fH] at hl;have hm:=(ho.tick m (hx m fA)).1;have h1:(ziP s m).length<=3:=by cases s<;>first|exact hm.1.1|exact hm.2.1
  refine zc _ rfl ?_;refine zk hb ?_;intro r hr;have hr0:(Y'.set r (.list [.str 0,.str 1])) r=some (.list [.str 0,.str 1]):=AHeap.wA ..;have hb0:=jc (o':=.list [.str 0,.str 1]) hb hr;have hs0:Sub Y (Y'.set r (.list [.str 0,.str 1])):=hs.put (hs.none hr);refine zk hr0 ?_;refine zk hr0 ?_;have hb1:((Y'.set r (.list [.str 0,.str 1])).set r (.list [.str 0,.str 1])) p=some (.list (b.map .int)):=by rw[jX];exact hb0
  have hs1:Sub Y ((Y'.set r (.list [.str 0,.str 1])).set r (.list [.str 0,.str 1])):=by rw[jX];exact hs0
  have fin:∀Y2,Sub Y Y2->∀u,True/\K [some (.ref o.od),some (.str s.toNat),some (.ref p),u] (Y2.set p (.list (b.map .int++(ziP s m).map .int))):=λY2 hs2 u=>
   ⟨trivial,hK _ _ ⟨⟨hs2.put hp,by rw[AHeap.wA,fR]⟩,⟨u,rfl⟩,by rw[fF];exact zvo hl h1,λy hy=>hx y (fB _ hy)⟩⟩
  generalize hσ:(Y'.set r (.list [.str 0,.str 1])).set r (.list [.str 0,.str 1])=Y2 at hb1 hs1;have e:G6 r (A.vD (zux (za7 []) ⟨n+1,false⟩ ([some (AV.ref o.od),some (AV.str s.toNat),some (AV.ref p),u].set 3 (some (zu m))) (A.vE zdP p (A.kEx ([some (AV.ref o.od),some (AV.str s.toNat),some (AV.ref p),u].set 3 (some (zu m))) (A.vK Ge ⟨n+1,false⟩ (Gy (zbE (5,AV.lst (D.tick.map zu)).snd (D.tick.map zu)) K S_) Gx))) (A.kZ Gx ([some (AV.ref o.od),some (AV.str s.toNat),some (AV.ref p),u].set 3 (some (zu m))))) (zu m)) (Y'.set r (.list [.str 0,.str 1])) (.int (s.toNat:Nat)) [.str 0,.str 1]:=by
   show A.vD _ _ _ ((Y'.set r (.list [.str 0,.str 1])).set r (.list [.str 0,.str 1]));rw[hσ];have hl2:(b.map AV.int).length+((ziP s m).map AV.int).length<=1000000:=by rw[fC,fC];exact zvp hl h1
   cases s with
   | false=>exact zk hb1 (zD hl2 (fin Y2 hs1 _))
   | true=>exact zk hb1 (zD hl2 (fin Y2 hs1 _))
  cases s with
  | false=>exact e
  | true=>exact e
 .intro l Y' hR;obtain⟨⟨hs,hb⟩,⟨u,rfl⟩,_,_⟩:=hR;rw[jN,fAH] at hb;have hO:=h.keep (Y':=Y') λx _ z e=>hs x z e;refine zg5 hO ?_;refine ze (zA (hO.row s)) ?_;rw[fC];have hrl:(D.row s).length<=80:=by
   cases s with
   | false=>exact ho.few.1
   | true=>exact ho.few.2
  refine zcA (zrL hrl) ?_;refine zR (λi:Nat=>!decide ((s,(i:Int))∈D.told)) (λi:Nat=>.int i) (λ_=>rfl) (λ_ _=>rfl) (λi _ R q=>?_) (λi _ _ R q=>q) trivial (by rw[gN];exact zrL hrl) ?_
  .refine inI (xs:=D.took s) hb ?_;rw[decide_eq_decide.mpr (znE D s i)];exact q
  .exact Ends.drop hs q
end
section
variable{P:Hl}{X:Cx}{n:Nat}{Q:zl}{Z:XP}{Y:AHeap}{o:OA}{v:OV}{D:Led}
theorem zrl(G:Gd X (hK P))(hd:n<470){a:LA}{k:Nat}(S:St Y a o v D k)(q:Q (.bool true) Y):CallOk X 324 ⟨n,false⟩ [.ref a.self,.ref o.od,.int D.span,.str 17] Q Z Y:=by
 refine zdO G (znL hd) λL=>?_;have hsm:∀x∈D.tick,SmM x:=λx hx=>(S.I.fits x hx).go.1;refine zn S.L.s S.L.d ?_;refine jd rfl ?_;refine zka (G.push L) (fY (gZ hd) (by decide)) S.L S.I.ok ?_;refine z0 S.O.d (ze rfl ?_);refine zda (λq=>zlI (G.push L) (zst hd) q) (zrY hd) hsm ?_;refine zjG (zeD _) (by decide) ?_;exact Ends.same q
theorem zrj(G:Gd X (hK P))(hd:n<470){a:LA}{k:Nat}(S:St Y a o v D k)(q:Q (.bool true) Y):CallOk X 324 ⟨n,false⟩ [.ref a.self,.ref o.od,.int D.span,.str 18] Q Z Y:=by
 refine zdO G (znL hd) λL=>?_;refine zn S.L.s S.L.d ?_;refine jd rfl ?_;refine zl5 (G.push L) (fY (gZ hd) (by decide)) S.L ?_;refine z0 S.O.d (ze rfl ?_);refine zsL S.O.c ?_;exact Ends.same q
theorem zmx(xs:List Nat):∀x∈xs.map (λi:Nat=>AV.int i),Flat 0 x:=λx hx=>by refine zb (fO.mp hx) λm _ e=>?_;rw[<-e];exact .int _
theorem zlL(G:Gd X (hK P))(hd:n<470){a:LA}{k:Nat}(S:St Y a o v D k)(s:Bool)(q:Q (.bool true) Y):CallOk X 324 ⟨n,false⟩ [.ref a.self,.ref o.od,.int D.span,.str s.toNat] Q Z Y:=by
 refine zdO G (znL hd) λL=>?_;have go:Gc (Gn (Gj (G0 (X.push L) 245 none 223 (Ga 0) [(Ga 3)]) [(.Eq,(Gk (X.push L) 317 [(Ga 1),(Ga 3)]))])) Ge ⟨n+1,false⟩ [some (.ref a.self),some (.ref o.od),some (.int D.span),some (.str s.toNat),none,none,none] (A.vF Q) (A.kEz Z) Y:=by
  refine zn S.L.s S.L.d ?_;refine zq2 (G.push L) (fY (gZ hd) (by decide)) S.L S.I.ok ?_;refine zih (G.push L) (fY (gZ hd) (by decide)) S.O S.I.ok ?_;refine zjG (zmx _) (by decide) ?_;exact Ends.same q
 cases s with
 | false=>exact go
 | true=>exact go
theorem zqJ(gs:List (List zd)):∀x∈gs.map gAV,Flat 2 x:=λx hx=>by refine zb (fO.mp hx) λg _ e=>?_;rw[<-e];exact .lst (zcH g)
theorem zrk(G:Gd X (hK P))(hd:n<470){a:LA}{k:Nat}(S:St Y a o v D k)(q:Q (.bool true) Y):CallOk X 324 ⟨n,false⟩ [.ref a.self,.ref o.od,.int D.span,.str 19] Q Z Y:=by
 refine zdO G (znL hd) λL=>?_;refine kQ (G.push L) (zrY hd) S.O.d rfl rfl S.O.b S.O.k S.I.ok.es S.I.ok.fs ?_;show A.vL _ _ _ (.lst (D.grps.map gAV)) Y;refine zgz (zqJ _) (by decide) ?_;rw[fC5];cases hG:D.grps with
 | nil=>exact Ends.same q
 | cons g0 gs0=>
  refine z0 S.O.d (ze rfl ?_);refine ze (zA S.O.b) ?_;have hlen:((g0::gs0).map gAV).length=gs0.length+1:=by rw[fC,fH]
  refine jd (b:=zcw (((g0::gs0).map gAV).length:Int)) (by unfold zcw;rw[hlen,Hz zxt];rfl) ?_;refine zb (zcT (c:=((D.es.map zz).length:Int)) (xs:=(g0::gs0).map gAV) _ rfl (by rw[hlen];exact zt7)) λw hw ew=>?_;refine zb (fO.mp hw) λg hg e=>?_;rw[<-hG] at hg;refine ze ew ?_;subst e;cases hgc:g with
  | nil=>exact absurd hgc (zow hg)
  | cons m t=>
   have hm:m∈g:=by rw[hgc];exact fA
   have hr:=zfF hg hm;refine z8 (fAT hr.1) λi ei=>?_;refine zm (zbR D (m:=m) (k:=i) ei (by have:=hr.2;rw[ei] at this;exact fBB.mp this)) λg' gs hg' hgm hgx=>?_;have eg:g'=m::t:=(zcm hgm hg hgx hm).trans hgc;rw[eg] at hg';refine zn S.L.s S.L.d ?_;refine zdg (G.push L) (fY (gZ hd) (by decide)) S.L S.I.ok hg' ?_;refine zjG (zcH _) (by decide) ?_;exact Ends.same q
theorem zmo(ws:List Nat):∀i:Nat,(ws.map AV.str).eraseIdx i=(ws.eraseIdx i).map .str:=by
 induction ws with
 | nil=>exact λ_=>rfl
 | cons w ws ih=>
  intro i;cases i with
  | zero=>rfl
  | succ i=>exact congrArg (AV.str w::·) (ih i)
theorem zpz(G:Gd X (hK P))(hd:n<470){a:LA}{k:Nat}(S:St Y a o v D k){w:Nat}(hw:w∈[17,18,0,1,19])(q:Q (.bool true) Y):CallOk X 324 ⟨n,false⟩ [.ref a.self,.ref o.od,.int D.span,.str w] Q Z Y:=
 (fM.mpr ⟨zrl G hd S q,fM.mpr ⟨zrj G hd S q,fM.mpr ⟨zlL G hd S false q,fM.mpr ⟨zlL G hd S true q,fM.mpr ⟨zrk G hd S q,λ_ h=>nomatch h⟩⟩⟩⟩⟩:∀w∈[17,18,0,1,19],CallOk X 324 ⟨n,false⟩ [.ref a.self,.ref o.od,.int D.span,.str w] Q Z Y) w hw
theorem St.sub{a:LA}{k:Nat}(S:St Y a o v D k){Y':AHeap}(s:Sub Y Y'):St Y' a o v D k:=⟨⟨s _ _ S.L.s,s _ _ S.L.d,s _ _ S.L.r,s _ _ S.L.b,s _ _ S.L.k,s _ _ S.L.t,s _ _ S.L.c,S.L.dr,S.L.nd⟩,S.O.keep λx _ z e=>s x z e,S.dis,S.I,S.few,S.clk⟩
theorem zgi(G:Gd X (hK P))(hd:n<460){a:LA}{k:Nat}(S:St Y a o v D k){w:Int}(q:Q (.bool true) Y):CallOk X 331 ⟨n,false⟩ [.ref a.self,.ref o.od,.int D.span,.int w] Q Z Y:=by
 refine zid G (zu9 hd) λL=>?_;intro p hp;refine jd (b:=zdx 0 5) rfl ?_;refine zw (β:=Unit) (xs:=List.range 5) (g:=λi:Nat=>AV.int i) (λxs _ l Y'=>(∃ws:List Nat,Y'=Y.set p (.list (ws.map .str))/\ws.length=xs.length/\∀w∈ws,w∈[17,18,0,1,19])/\∃(w:Int) (u:Option AV),l=[some (.ref a.self),some (.ref o.od),some (.int D.span),some (.int w),some (.ref p),u]) (λ_ _=>()) ?_ (b:=()) ?_ ⟨⟨[17,18,0,1,19],rfl,rfl,λw h=>h⟩,_,_,rfl⟩
 .intro i xs _ l Y' K S_ hR hK;obtain⟨⟨ws,rfl,hl,hw⟩,w,u,rfl⟩:=hR;rw[fH] at hl;have hp':(Y.set p (.list (ws.map .str))) p=some (.list (ws.map .str)):=AHeap.wA ..;refine zc _ rfl ?_;have hlen:((ws.map AV.str).length:Int)=(xs.length+1:Nat):=by rw[fC,hl]
  have hpos:(0:Int)<((ws.map AV.str).length:Int):=by rw[hlen];exact zt7
  refine zk hp' ?_;refine ze (zA hp') ?_;refine jd (b:=zcw ((ws.map AV.str).length:Int)) (by unfold zcw;rw[Hz (y14 hpos)];rfl) ?_;refine zk hp' ?_;have h0:=gV w hpos;have h1:=pJ w hpos;generalize w.fmod ((ws.map AV.str).length:Int)=y at h0 h1 ⊢;refine jd (H0 h0) ?_;have hy:y.toNat<ws.length:=by rw[fC] at h1;exact zu8 hl h1
  refine ze (show (ws.map AV.str)[y.toNat]? = some (.str ws[y.toNat]) by rw[pZ,fU hy];rfl) ?_;unfold G6;rw[jX];have hws:(ws.map AV.str).eraseIdx y.toNat=(ws.eraseIdx y.toNat).map .str:=zmo ws _;rw[hws];refine zpz (G.push L) (fY (gZ hd) (by decide)) (S.sub (zL hp)) (hw _ (fA8 hy)) ?_;exact⟨trivial,hK _ _ ⟨⟨_,rfl,by rw[List.length_eraseIdx_of_lt hy,hl];rfl,λw hw'=>hw w (List.mem_of_mem_eraseIdx hw')⟩,_,_,rfl⟩⟩
 .intro l Y' hR;obtain⟨⟨ws,rfl,_,_⟩,w,u,rfl⟩:=hR;exact Ends.drop (zL hp) q
end
section
variable{P:Hl}{X:Cx}{n:Nat}{Q:zl}{Z:XP}{Y:AHeap}
theorem bit{x:Int}(h1:0<=x)(h2:x<2):x=0\/x=1:=zFe h1 h2
theorem zox(sp:Int):Led.grps ⟨[],[],sp,[],[]⟩=[]:=by
 have h2:inO [] []=[]:=fAR (by rw[zax];rfl);unfold Led.grps grps;rw[h2];rfl
theorem zqP{sp:Int}(h0:0<=sp)(h1:sp<=30):Inv ⟨[],[],sp,[],[]⟩:=by
 refine⟨⟨⟨(λ_ h=>nomatch h),(λ_ h=>nomatch h),fX _⟩,⟨(λ_ h=>nomatch h),(λ_ h=>nomatch h),fX _⟩,⟨fX _,fX _⟩,(λ_ h=>nomatch h),(λ_ h=>nomatch h),fX _,fX _⟩,h0,h1,λg h=>?_,(λ_ h=>nomatch h),.nil,(λ_ h=>nomatch h),(λ_ h=>nomatch h)⟩;rw[zox] at h;cases h
structure Bd(Y:AHeap)(r ob ok oc:Addr)(F:List (Nat×AV)):Prop where
 d:Y r=some (.idict F)
 b:Y ob=some (.list [])
 k:Y ok=some (.list [])
 c:Y oc=some (.list [])
 nd:[ob,ok,oc].Nodup
theorem Bd.put{r ob ok oc:Addr}{F:List (Nat×AV)}(B:Bd Y r ob ok oc F)(F':List (Nat×AV)):Bd (Y.set r (.idict F')) r ob ok oc F':=by
 have nr:∀{q:Addr},Y q=some (.list [])->q≠r:=λe h=>by rw[h,B.d] at e;cases e
 exact⟨AHeap.wA ..,zx B.b (nr B.b),zx B.k (nr B.k),zx B.c (nr B.c),B.nd⟩
theorem zko{r ob ok oc:Addr}{F F':List (Nat×AV)}(B:Bd Y r ob ok oc F){n:Nat}{x:AV}(hl:F.length<100)(e:jx F n x=F'){R:AHeap->Prop}(q:∀Y',Bd Y' r ob ok oc F'->R Y'):ziK r (.str n) x R Y:=zhb B.d hl (q _ (e▸B.put _))
theorem Bd.new{r ob ok oc:Addr}(hr:Y r=none)(hob:(Y.set r (.idict [])) ob=none)(hok:((Y.set r (.idict [])).set ob (.list [])) ok=none)(hoc:(((Y.set r (.idict [])).set ob (.list [])).set ok (.list [])) oc=none) :
  Bd ((((Y.set r (.idict [])).set ob (.list [])).set ok (.list [])).set oc (.list [])) r ob ok oc []:=by
 have r1:=jc (o':=.list []) (AHeap.wA Y r (.idict [])) hob;have b1:((Y.set r (.idict [])).set ob (.list [])) ob=some (.list []):=AHeap.wA ..;have b2:=jc (o':=.list []) b1 hok;have k2:(((Y.set r (.idict [])).set ob (.list [])).set ok (.list [])) ok=some (.list []):=AHeap.wA ..;refine⟨jc (jc r1 hok) hoc,jc b2 hoc,jc k2 hoc,AHeap.wA ..,?_⟩;exact nd3.mpr ⟨⟨ziC b1 hok,ziC b2 hoc⟩,ziC k2 hoc⟩
theorem zxI(c:Int):∃d:Int,jK [AV.int 5,.int 20] (c.fmod 2)=some (.int d)/\(d=5\/d=20):=by
 refine zb (zcT (c:=c) (xs:=[AV.int 5,.int 20]) 2 rfl (by decide)) λw hw ew=>?_
 rcases fJ.mp hw with rfl|hw
 .exact zc 5 ew (.inl rfl)
 .rw[fG.mp hw] at ew;exact zc 20 ew (.inr rfl)
theorem zpP{i:Int}(c:Int):(small (c.fmod (10 ^ Int.toNat 8)).natAbs||small i.natAbs)=true:=zan (fAY (by decide) (gV c (show (0:Int)<10 ^ Int.toNat 8 by decide))) (fAY (fCL (pJ c (show (0:Int)<10 ^ Int.toNat 8 by decide))) (by decide))
theorem zpp(ns:List Int){dy:Int}(hdy:dy=5\/dy=20):OVOk ⟨dy,1+((ns.getD 1 0).fdiv 2).fmod 2*((ns.getD 1 0).fdiv 4).fmod (10 ^ Int.toNat 8),((ns.getD 0 0).fdiv 390).fmod 9943,1+(ns.getD 14 0).fmod 3⟩:=by
 have s1:=gV ((ns.getD 1 0).fdiv 2) (show (0:Int)<2 by decide);have s2:=pJ ((ns.getD 1 0).fdiv 2) (show (0:Int)<2 by decide);have s3:=gV ((ns.getD 1 0).fdiv 4) (show (0:Int)<10 ^ Int.toNat 8 by decide);have s4:=pJ ((ns.getD 1 0).fdiv 4) (show (0:Int)<10 ^ Int.toNat 8 by decide);have t2:=pJ ((ns.getD 0 0).fdiv 390) (show (0:Int)<9943 by decide);have u1:=gV (ns.getD 14 0) (show (0:Int)<3 by decide);have u2:=pJ (ns.getD 14 0) (show (0:Int)<3 by decide);generalize ((ns.getD 1 0).fdiv 2).fmod 2=a at s1 s2 ⊢;generalize ((ns.getD 1 0).fdiv 4).fmod (10 ^ Int.toNat 8)=b at s3 s4 ⊢;refine⟨hdy,?_,⟨gV _ (by decide),zEu t2⟩,⟨zEs u1,zEt u2⟩⟩
 rcases bit s1 s2 with rfl|rfl
 .show 1<=1+0*b/\1+0*b<=100000000;rw[Int.zero_mul];decide
 .show 1<=1+1*b/\1+1*b<=100000000;rw[Int.one_mul];exact⟨fAF s3,Int.add_one_le_of_lt (a:=_) s4 |> (Int.add_comm 1 _▸·)⟩
def zq9(X:Cx):AS:=(Gc (Gh 2 (A.dic [((Gb (.str 0)),(Gq true [])),((Gb (.str 1)),(Gq true [])),((Gb (.str 18)),(Gq true [])),((Gb (.str 5)),(Gq false [])),((Gb (.str 20)),(Gf (Gq false [(Gb (.int 5)),(Gb (.int 20))]) (Gg false .Mod (Gk X 256 [(Ga 0),(Gb (.int 1))]) (Gb (.int 2))))),((Gb (.str 21)),(Gb (.int 1)))])) (Gc (G1 (Gg false .Add (Gb (.int 1)) (Gg false .Mult (Gg false .Mod (Gg false .FloorDiv (Gk X 256 [(Ga 0),(Gb (.int 1))]) (Gb (.int 2))) (Gb (.int 2))) (Gg false .Mod (Gg false .FloorDiv (Gk X 256 [(Ga 0),(Gb (.int 1))]) (Gb (.int 4))) (Gg false .Pow (Gb (.int 10)) (Gb (.int 8)))))) (Ga 2) (Gb (.str 21))) (Gc (G1 (Gg false .Mod (Gg false .FloorDiv (Gk X 256 [(Ga 0),(Gb (.int 0))]) (Gb (.int 390))) (Gb (.int 9943))) (Ga 2) (Gb (.str 22))) (Gc (G1 (Gg false .Add (Gb (.int 1)) (Gg false .Mod (Gk X 256 [(Ga 0),(Gb (.int 14))]) (Gb (.int 3)))) (Ga 2) (Gb (.str 24))) (Gc (Gh 3 (A.new X 245 178 [(Ga 1)])) (Gc (Gu (Gk X 305 [(Ga 3),(Ga 2),(Gk X 256 [(Ga 0),(Gb (.int 13))])])) (Gc (Gv (G7 (G4 false (Ga 0) (some (Gb (.int 2))) (some (Gb (.int 13))))) (.many [4,5]) (zis X)) (Gc (Gn (Gb (.bool true))) Ge))))))))
theorem zii{L:Env}(G:Gd (X.push L) (hK P))(hd:n<440){ns:List Int}{sp:Int}(h0:0<=sp)(h1:sp<=30)(q:∀Y',Q (.bool true) Y'){x2 x3 x4 x5:Option AV} :
  zq9 (X.push L) ⟨n+1,false⟩ [some (.lst (ns.map .int)),some (.int sp),x2,x3,x4,x5] (A.vF Q) (A.kEz Z) Y:=by
 intro r hr ob hob ok hok oc hoc;have B:=Bd.new hr hob hok hoc;generalize ((((Y.set r (.idict [])).set ob (.list [])).set ok (.list [])).set oc (.list []))=Y3 at B ⊢;refine jA G (zk2 hd) (k:=1) ?_;refine zb (zxI (ns.getD 1 0)) λdy ew hdy=>?_;refine ze ew ?_;refine⟨B.d,ze (a:=[(0,.ref ob),(1,.ref ok),(18,.ref oc),(5,.lst []),(20,.int dy),(21,.int 1)]) rfl ?_⟩;have B:=B.put [(0,.ref ob),(1,.ref ok),(18,.ref oc),(5,.lst []),(20,.int dy),(21,.int 1)];generalize Y3.set r _=Y4 at B ⊢;refine jA G (zk2 hd) (k:=1) ?_;refine jA G (zk2 hd) (k:=1) ?_;refine jd (zpP _) ?_;refine zko B (show 6<100 by decide) rfl λY5 B=>?_;refine jA G (zk2 hd) (k:=0) ?_;refine zko B (show 6<100 by decide) rfl λY6 B=>?_;refine jA G (zk2 hd) (k:=14) ?_;refine zko B (show 7<100 by decide) rfl λY7 B=>?_;have hv:=zpp ns hdy;have hO:OAt Y7 ⟨r,ob,ok,oc⟩ ⟨dy,1+((ns.getD 1 0).fdiv 2).fmod 2*((ns.getD 1 0).fdiv 4).fmod (10 ^ Int.toNat 8),((ns.getD 0 0).fdiv 390).fmod 9943,1+(ns.getD 14 0).fmod 3⟩ ⟨[],[],sp,[],[]⟩:=⟨B.d,B.b,B.k,B.c,B.nd⟩
 generalize (⟨dy,1+((ns.getD 1 0).fdiv 2).fmod 2*((ns.getD 1 0).fdiv 4).fmod (10 ^ Int.toNat 8),((ns.getD 0 0).fdiv 390).fmod 9943,1+(ns.getD 14 0).fmod 3⟩:OV)=v at hv hO;have hoa:OA.od ⟨r,ob,ok,oc⟩=r:=rfl;rw[<-hoa];generalize (⟨r,ob,ok,oc⟩:OA)=o at hO ⊢;refine⟨(show n+1<590 by exact zk2 hd),zte G (zEz hd) (show zov sp=true by unfold zov;rw[H0 h0,H0 h1];rfl) λY8 a s8 fr hL=>?_⟩;have dis:∀x∈o.all,x∉a.all:=λx hx hx'=>hO.some hx (fr x hx');have S0:St Y8 a o v ⟨[],[],sp,[],[]⟩ 0:=⟨hL,hO.keep (λx _ z e=>s8 x z e),dis,zqP h0 h1,fN _,fN _⟩
 refine jA G (zk2 hd) (k:=13) ?_;refine zq0 G (fY (gZ hd) (by decide)) S0 ⟨rfl,rfl⟩ hv λY9 pt D1 S1 hsp1=>?_;have hsp1:D1.span=sp:=hsp1;have hcut:∃M:List Int,cut (ns.map AV.int) (some 2) (some 13)=M.map .int/\M.length<=13:=by
  refine zc ((ns.drop (clipAt (ns.map AV.int).length 2)).take (clipAt (ns.map AV.int).length 13-clipAt (ns.map AV.int).length 2)) (by unfold cut;rw[List.map_take,List.map_drop];rfl) ?_;have h13:=clipAt_min (n:=(ns.map AV.int).length) (y:=13) (by decide);rw[fC4];split at h13<;>(first|exact zE2 (by assumption) h13|exact zES h13)
 refine zb hcut λM hM hMl=>?_
 conv=>whnf
 rw[hM,zed];refine zw (g:=λp:Int×Nat=>AV.tup [.int (p.2:Nat),.int p.1]) (λxs b l Y'=>(∃pt D,St Y' { a with pt:=pt } o v D (13+b)/\D.span=sp)/\(b+xs.length<=13/\∀p∈xs,p.2<=13)/\∃u w,l=[some (.lst (ns.map .int)),some (.int sp),some (.ref o.od),some (.ref a.self),u,w]) (λb _=>b+1) ?_ (b:=0) ?_ ⟨⟨pt,D1,S1,hsp1⟩,⟨by rw[fBE,fBD];exact hMl,λp hp=>?_⟩,_,_,rfl⟩
 .intro c xs b l Y' K S_ hR hK;obtain⟨⟨pt,D,S,hsp⟩,⟨hb,hx⟩,u,w,rfl⟩:=hR;rw[fH] at hb;have hc:=hx c fA;refine zc _ rfl ?_;subst hsp;refine zqw (a:={ a with pt:=pt }) G (fY (gZ hd) (by decide)) S hv (zvh hb) λY2 pt2 D2 S2 hsp2=>?_;refine jd (zan zsu (zvd hc)) ?_;rw[<-hsp2];refine zgi (a:={ a with pt:=pt2 }) G (fY (gZ hd) (by decide)) S2 ?_;exact⟨trivial,hK _ _ ⟨⟨pt2,D2,S2,hsp2⟩,⟨zEI hb,λp hp=>hx p (fB _ hp)⟩,_,_,by rw[hsp2];rfl⟩⟩
 .intro l Y' hR;obtain⟨⟨pt,D,S,hsp⟩,_,u,w,rfl⟩:=hR;exact Ends.same (q _)
 .have:=List.snd_lt_of_mem_zipIdx hp;exact zvn hMl this
theorem law_ok(G:Gd X (hK P))(hd:n<400){ns:List Int}(q:∀Y',Q (.bool true) Y'):CallOk X 338 ⟨n,false⟩ [.lst (ns.map .int)] Q Z Y:=by
 refine zuF G (zyG hd) λL=>?_;have G':=G.push L;refine jA G' (ztD hd) (k:=0) ?_;refine jA G' (ztD hd) (k:=0) ?_;generalize ns.getD 0 0=c0;have a1:=gV c0 (show (0:Int)<5 by decide);refine qe (λh=>?_) λh=>?_
 .refine jA G' (ztD hd) (k:=0) ?_;have b1:=gV ((ns.getD 0 0).fdiv 15) (show (0:Int)<26 by decide);have b2:=pJ ((ns.getD 0 0).fdiv 15) (show (0:Int)<26 by decide);exact zii G' (zxr hd) (zEr b1) (Int.add_le_add_left (Int.le_sub_one_of_lt b2) 5) q
 .have a2:=pJ c0 (show (0:Int)<5 by decide);exact zii G' (zxr hd) a1 (fAY (fCL a2) (by decide)) q
end
theorem argsW_of{R:List WData->List Value->Prop}{w:World}{s₀ s₁:Shared}{args:List WData}{vals:List Value}{as:List Addr}(h:∀l vs ns,s₁.heap.IsList l vs.toArray->IntsAre vs ns->ns.length<=1000000->R [ofPy (.list (ns.map .int))] [.ref l])(hpre:rw_.row.claim.pre args=true)(hlay:WData.layableAll args=true)(hrd:ReadsAllW rw_.row.records (classAt s₀.heap) s₁.heap vals args as)(hwl:WellAll w.params s₁.heap vals args)(hlo:∀a∈as,(a==sysModules)=false):R args vals:=by
 wrow_args hpre hlay hrd hwl hlo
 exact h _ _ _ (by assumption) (by assumption) (by omega)
theorem refW_eq{o:Option Value}{f g:Addr}(h:o=some (.ref f))(h':o=some (.ref g)):f=g:=by rw[h] at h';cases h';rfl
end Mine.Internal
open PySem PySem.W PyProof.Rows
theorem PySem.Challenge.cw_uf060002_12_holds : PySem.Challenge.rw_uf060002_12.Holds := by
 refine Mine.Internal.hd ?_;intro w s₀ s₁ mg mb G Yb fa o pm cd doc dV kV ho hd hcd hD hmg hg args vals as hpre hlay hrd hwl hlo;refine Mine.Internal.argsW_of (R:=λargs vals=>wpAny (model Mine.Internal.rw_.row.prog w) callerA (call (.ref fa) vals) (λv s'=>GoodWG Mine.Internal.rw_.row.claim (classAt s₀.heap) (ExcName.means s₀.heap) args s₁ (.ok (.ret v)) s') (λe s'=>GoodWG Mine.Internal.rw_.row.claim (classAt s₀.heap) (ExcName.means s₀.heap) args s₁ (.error e) s') s₁) (λl vs ns hl hi hn=>?_) hpre hlay hrd hwl hlo;have KX:=kIn_of Yb;refine Ground.open G ?_;intro T B D TE TW;rw[Mine.Internal.dL_name] at hmg;rw[Mine.Internal.refW_eq hmg (mg_of KX T.g (n:="law") (v:=.ref 338) (by kernel_rfl))];refine enter_call ?_;refine codeAny_mono ?_ (λ_ _ g=>GoodW.toG g);refine Mine.Internal.head_of (K:=Mine.Internal.hK w.params) ⟨⟨T.g,T.b,T.nolimit⟩,KX,T.builtins⟩ hl hi hn hg (λ_=>rfl) (postW_of rfl (w_eq_bool rfl rfl) rfl) ?_;intro Q Z Y q;exact Mine.Internal.law_ok ⟨⟨T.g,T.b,T.nolimit⟩,KX,T.builtins⟩ (by omega) q
